import PyProof.Rows.All
import HandS.ForMost
import HandS.Wide
import HandS.TupAny
import HandS.TupMul
import HandS.Flow
import HandS.Style
import HandS.Deep
import HandS.IsInst
import HandS.Conv
import HandS.Dict
import HandS.Sort
import HandS.Iter
import HandS.Zip
import KE.GoesMore
import KE.DatumOrd
import PyProof.ReprRoads
import PyProof.ReprNest
import HandS.RaiseMore
import HandS.WordsDict
import HandS.MakeKwOnly
import HandS.More
import PyProof.Rows.TupDisplay
import HandS.Small
import HandS.Words
import HandS.Ends
import PyProof.ReprLen
import PySem.Challenge.RW_seekways_k24_trees
set_option Elab.async false
set_option linter.all false
set_option maxRecDepth 100000
/-! EvA: values, store, the evaluator of the subset. -/
namespace Q
open PySem

/-- the longest list, tuple -/
abbrev SZ : Nat := 16777216

abbrev K1 := Sum Int Str
/-- a dict's key -/
inductive KY where
  | one (k : K1) | tup (ks : List Int)
  deriving DecidableEq

/-- frozen, new (nobody else has it), borrowed (a local name has it), from outside (read only) -/
inductive Kd | fz | nw | bw | ro
  deriving DecidableEq

inductive MV where
  | non | bl (b : Bool) | int (i : Int) | str (s : Str)
  | tup (xs : List MV)
  | lst (k : Kd) (xs : List MV)
  | dct (k : Kd) (t : Bool) (kvs : List (KY × MV))
  | st (k : Kd) (xs : List KY)
  | ref (n : Nat)
  deriving Inhabited

inductive MObj where
  | lst (xs : List MV) | dct (t : Bool) (kvs : List (KY × MV)) | ins (C : Nat) (fs : List (Nat × MV))

structure Store where
  nx : Nat
  ob : Nat → Option MObj

def Store.put (M : Store) (n : Nat) (o : MObj) : Store := { M with ob := fun m => if m = n then some o else M.ob m }
def Store.add (M : Store) (o : MObj) : Store := { nx := M.nx + 1, ob := fun m => if m = M.nx then some o else M.ob m }

inductive Res (α : Type) where
  | ok (a : α) (M : Store)
  | ex (c : Nat) (fs : List (Nat × MV)) (M : Store)
  | stuck

def Res.bind {α β : Type} (r : Res α) (f : α → Store → Res β) : Res β :=
  match r with
  | .ok a M => f a M
  | .ex c fs M => .ex c fs M
  | .stuck => .stuck
def ofO {α : Type} (o : Option α) (M : Store) : Res α :=
  match o with
  | some a => .ok a M
  | none => .stuck

/-- slots -/
inductive SV where
  | v (m : MV) | ol (xs : List MV) | od (t : Bool) (kvs : List (KY × MV)) | os (xs : List KY)
abbrev Env := List (Option SV)

/-! ### data -/
mutual
def MV.py : MV → PyData
  | .non => .none
  | .bl b => .bool b
  | .int i => .int i
  | .str s => .str s
  | .tup xs => .tuple (MV.pyL xs)
  | .lst _ xs => .list (MV.pyL xs)
  | .dct _ _ _ => .none
  | .st _ _ => .none
  | .ref _ => .none
def MV.pyL : List MV → List PyData
  | [] => []
  | x :: xs => MV.py x :: MV.pyL xs
end
/-- plain data of at most so many levels -/
def MV.shp : Nat → MV → Bool
  | _, .non => true
  | _, .bl _ => true
  | _, .int _ => true
  | _, .str s => s.cps.all (· < 0x110000)
  | n + 1, .tup xs => xs.all (MV.shp n)
  | n + 1, .lst _ xs => xs.all (MV.shp n)
  | _, _ => false
/-- .. whose ints can be written -/
def MV.shr : Nat → MV → Bool
  | _, .non => true
  | _, .bl _ => true
  | _, .int i => decide (i.natAbs < 2 ^ 1900)
  | _, .str s => s.cps.all (· < 0x110000)
  | n + 1, .tup xs => xs.all (MV.shr n)
  | n + 1, .lst _ xs => xs.all (MV.shr n)
  | _, _ => false

def MV.eqv (a b : MV) : Bool := PyData.eqv a.py b.py

def seqOf : MV → Option (List MV)
  | .tup xs => some xs
  | .lst _ xs => some xs
  | _ => none
/-- a list, a dict of the store is read -/
def MV.dr (M : Store) : MV → MV
  | .ref n => match M.ob n with
    | some (.lst xs) => .lst .bw xs
    | some (.dct t kvs) => .dct .bw t kvs
    | _ => .ref n
  | v => v
/-- what may be kept -/
def MV.frz : MV → Option MV
  | .lst .nw xs => some (.lst .fz xs)
  | .lst .bw _ => none
  | .dct .nw t kvs => some (.dct .fz t kvs)
  | .dct .bw _ _ => none
  | .st .nw xs => some (.st .fz xs)
  | .st .bw _ => none
  | v => some v
/-- what is frozen is itself -/
def MV.isF : MV → Bool
  | .lst .nw _ => false
  | .lst .bw _ => false
  | .dct .nw _ _ => false
  | .dct .bw _ _ => false
  | .st _ _ => false
  | _ => true
/-- the kind of what is read off -/
def MV.kd : MV → Kd
  | .lst .bw _ => .bw
  | _ => .nw
def Kd.or : Kd → Kd → Kd
  | .bw, _ => .bw
  | _, .bw => .bw
  | _, _ => .nw
/-- what may leave its frame -/
def MV.out : MV → MV
  | .lst .ro xs => .lst .ro xs
  | .lst _ xs => .lst .fz xs
  | .dct _ t kvs => .dct .fz t kvs
  | .st _ xs => .st .fz xs
  | v => v

def k1Of : MV → Option K1
  | .int i => some (.inl i)
  | .str s => some (.inr s)
  | _ => none
def intsOf : List MV → Option (List Int)
  | [] => some []
  | .int i :: xs => match intsOf xs with
    | some is => some (i :: is)
    | none => none
  | _ => none
def keyOf : MV → Option KY
  | .tup xs => match intsOf xs with
    | some is => if is = [] then none else some (.tup is)
    | none => none
  | v => (k1Of v).map KY.one
def K1.mv : K1 → MV
  | .inl i => .int i
  | .inr s => .str s
def KY.mv : KY → MV
  | .one k => K1.mv k
  | .tup ks => .tup (ks.map MV.int)
def KY.isT : KY → Bool
  | .tup _ => true
  | .one _ => false
def dget (kvs : List (KY × MV)) (k : KY) : Option MV :=
  match kvs with
  | [] => none
  | (j, v) :: r => if j = k then some v else dget r k
def dput (kvs : List (KY × MV)) (k : KY) (v : MV) : List (KY × MV) :=
  if kvs.any (fun p => decide (p.1 = k)) = true then kvs.map (fun p => if p.1 = k then (p.1, v) else p) else kvs ++ [(k, v)]
/-- the value as a key of that kind -/
def keyT (t : Bool) (v : MV) : Option KY :=
  match keyOf v with
  | some k => if k.isT = t then some k else none
  | none => none

def truth : MV → Option Bool
  | .non => some false
  | .bl b => some b
  | .int i => some (decide (i ≠ 0))
  | .tup xs => some (!xs.isEmpty)
  | .lst _ xs => some (!xs.isEmpty)
  | .str s => if s.length ≤ SZ then some (decide (s.length ≠ 0)) else none
  | _ => none

/-! ### operators -/
inductive BOp | add | sub | mul | fdiv | mod | pow
  deriving DecidableEq
inductive COp | eq | ne | lt | le | gt | ge | isN | notN | isB | notB | inn | nin
  deriving DecidableEq

def sm (i : Int) : Bool := decide (-18446744073709551616 < i) && decide (i < 18446744073709551616)
def binM : BOp → MV → MV → Option MV
  | .add, .int i, .int j => some (.int (i + j))
  | .sub, .int i, .int j => some (.int (i - j))
  | .mul, .int i, .int j => if sm i || sm j then some (.int (i * j)) else none
  | .fdiv, .int i, .int j => if 0 < j ∧ j < 18446744073709551616 then some (.int (i / j)) else none
  | .mod, .int i, .int j => if 0 < j then some (.int (i % j)) else none
  | .pow, .int i, .int j => if 0 ≤ j ∧ j ≤ 1000 ∧ sm i = true then some (.int (i ^ j.toNat)) else none
  | .add, .tup xs, .tup ys => if xs.length + ys.length ≤ SZ then some (.tup (xs ++ ys)) else none
  | .add, .lst k xs, .lst l ys => if xs.length + ys.length ≤ SZ ∧ k ≠ .ro ∧ l ≠ .ro then some (.lst .nw (xs ++ ys)) else none
  | .add, .str x, .str y => if x.length + y.length ≤ SZ then some (.str (x ++ y)) else none
  | .mul, .tup xs, .int j => if xs ≠ [] ∧ 1 ≤ j ∧ j ≤ 1000 ∧ xs.length ≤ 1000 then some (.tup (List.replicate j.toNat xs).flatten) else none
  | .mul, .lst k xs, .int j => if k ≠ .ro ∧ -1000000 ≤ j ∧ j ≤ 1000000 ∧ xs.length * j.toNat ≤ SZ then some (.lst .nw (List.replicate j.toNat xs).flatten) else none
  | _, _, _ => none

/-- list order of ints -/
def lexLt : List Int → List Int → Bool
  | [], [] => false
  | [], _ :: _ => true
  | _ :: _, [] => false
  | x :: xs, y :: ys => if x = y then lexLt xs ys else decide (x < y)
def boolsOf : List MV → Option (List Bool)
  | [] => some []
  | .bl b :: xs => match boolsOf xs with
    | some bs => some (b :: bs)
    | none => none
  | _ => none

def MV.isNon : MV → Bool
  | .non => true
  | _ => false
/-- two lists, not of one length -/
def lenNe (a b : MV) : Bool :=
  match a, b with
  | .lst _ xs, .lst _ ys => decide (xs.length ≠ ys.length)
  | _, _ => false
def cmpM (op : COp) (a b : MV) : Option Bool :=
  match op with
  | .eq => if a.shp 60 && b.shp 60 then some (a.eqv b) else if lenNe a b then some false else none
  | .ne => if a.shp 60 && b.shp 60 then some (!a.eqv b) else if lenNe a b then some true else none
  | .lt => match a, b with
    | .int i, .int j => some (decide (i < j))
    | .tup xs, .tup ys => match intsOf xs, intsOf ys with
      | some is, some js => some (lexLt is js)
      | _, _ => none
    | _, _ => none
  | .le => match a, b with
    | .int i, .int j => some (decide (i ≤ j))
    | _, _ => none
  | .gt => match a, b with
    | .int i, .int j => some (decide (j < i))
    | _, _ => none
  | .ge => match a, b with
    | .int i, .int j => some (decide (j ≤ i))
    | _, _ => none
  | .isN => some a.isNon
  | .notN => some (!a.isNon)
  | .isB => match a, b with
    | .bl x, .bl y => some (x == y)
    | .int _, .bl _ => some false
    | .str _, .bl _ => some false
    | .non, .bl _ => some false
    | .tup _, .bl _ => some false
    | _, _ => none
  | .notB => match a, b with
    | .bl x, .bl y => some (!(x == y))
    | _, _ => none
  | .inn => match b with
    | .tup ys => if a.shp 60 && (MV.tup ys).shp 60 then some (ys.any fun y => y.eqv a) else none
    | .lst _ ys => if a.shp 60 && (MV.tup ys).shp 60 then some (ys.any fun y => y.eqv a) else none
    | .dct _ t kvs => match keyT t a with
      | some k => some (dget kvs k).isSome
      | none => none
    | _ => none
  | .nin => match b with
    | .tup ys => if a.shp 60 && (MV.tup ys).shp 60 then some (!ys.any fun y => y.eqv a) else none
    | .lst _ ys => if a.shp 60 && (MV.tup ys).shp 60 then some (!ys.any fun y => y.eqv a) else none
    | .dct _ t kvs => match keyT t a with
      | some k => some (!(dget kvs k).isSome)
      | none => none
    | _ => none

/-- an item, from behind below 0 -/
def atM {α : Type} (xs : List α) (i : Int) : Option α :=
  if 0 ≤ i then xs[i.toNat]? else if 0 ≤ i + xs.length then xs[(i + xs.length).toNat]? else none
def atK {α : Type} (xs : List α) (i : Int) : Option Nat :=
  if 0 ≤ i then (if i.toNat < xs.length then some i.toNat else none) else if 0 ≤ i + xs.length then some (i + xs.length).toNat else none
def idxM (a i : MV) : Option MV :=
  match a with
  | .dct _ t kvs => match keyT t i with
    | some k => dget kvs k
    | none => none
  | .tup xs => match i with
    | .int k => atM xs k
    | _ => none
  | .lst _ xs => match i with
    | .int k => atM xs k
    | _ => none
  | _ => none
/-- a slice's place -/
def sIx (n d : Nat) : Option Int → Nat
  | none => d
  | some v => if v < 0 then (v + n).toNat else min v.toNat n
def cutM {α : Type} (xs : List α) (lo hi : Option Int) : List α :=
  (xs.drop (sIx xs.length 0 lo)).take (sIx xs.length xs.length hi - sIx xs.length 0 lo)
def slM (a : MV) (lo hi : Option Int) : Option MV :=
  match a with
  | .tup xs => some (.tup (cutM xs lo hi))
  | .lst _ xs => some (.lst .nw (cutM xs lo hi))
  | _ => none

/-- a[::st], st is 1 or -1 -/
def stpM (a i : MV) : Option MV :=
  match a with
  | .tup xs => match i with
    | .int k => if k = -1 then some (.tup xs.reverse) else none
    | _ => none
  | .lst _ xs => match i with
    | .int k => if k = 1 then some (.lst .nw xs) else if k = -1 then some (.lst .nw xs.reverse) else none
    | _ => none
  | _ => none
/-- tuples of ints, all -/
def tupsOf : List MV → Option (List (List Int))
  | [] => some []
  | .tup xs :: r => match intsOf xs, tupsOf r with
    | some is, some ts => some (is :: ts)
    | _, _ => none
  | _ => none
/-- the first of the least -/
def minTs (t : List Int) (ts : List (List Int)) : List Int := ts.foldl (fun a y => if lexLt y a = true then y else a) t

/-! ### built-ins -/
inductive Bi | len | all | any | sum | maxL | minL | max2 | min2 | sortedI | range1 | range2 | range3 | enum | zip | tuple | list | int | abs | repr | dict1
  deriving DecidableEq

def Bi.it : Bi → Bool
  | .range1 | .range2 | .range3 | .enum | .zip => true
  | _ => false
def rangeL (a b : Int) : List MV := (List.range (b - a).toNat).map fun (k : Nat) => MV.int (a + k)
def rangeD (a b : Int) : List MV := (List.range (a - b).toNat).map fun (k : Nat) => MV.int (a + (k : Nat) * (-1))
def enumF : Nat → List MV → List MV
  | _, [] => []
  | k, x :: xs => .tup [.int k, x] :: enumF (k + 1) xs
def zipF : List MV → List MV → List MV
  | x :: xs, y :: ys => .tup [x, y] :: zipF xs ys
  | _, _ => []
def maxI : List Int → Option Int
  | [] => none
  | x :: xs => some (xs.foldl (fun a b => if b > a then b else a) x)
def minI : List Int → Option Int
  | [] => none
  | x :: xs => some (xs.foldl (fun a b => if b < a then b else a) x)
def insI (x : Int) : List Int → List Int
  | [] => [x]
  | y :: ys => if x < y then x :: y :: ys else y :: insI x ys
def sortI : List Int → List Int
  | [] => []
  | x :: xs => insI x (sortI xs)

def evBi (b : Bi) (vs : List MV) : Option MV :=
  match b, vs with
  | .len, [.tup xs] => some (.int xs.length)
  | .len, [.lst _ xs] => some (.int xs.length)
  | .len, [.str x] => if x.length ≤ SZ then some (.int x.length) else none
  | .len, [.dct _ false kvs] => some (.int kvs.length)
  | .all, [.lst _ xs] => (boolsOf xs).map fun bs => .bl (bs.all id)
  | .any, [.lst _ xs] => (boolsOf xs).map fun bs => .bl (bs.any id)
  | .sum, [.lst _ xs] => (intsOf xs).map fun is => .int is.sum
  | .sum, [.tup xs] => (intsOf xs).map fun is => .int is.sum
  | .maxL, [.tup xs] => match intsOf xs with
    | some is => (maxI is).map .int
    | none => none
  | .minL, [.tup xs] => match intsOf xs with
    | some is => (minI is).map .int
    | none => none
  | .maxL, [.lst _ xs] => match intsOf xs with
    | some is => (maxI is).map .int
    | none => none
  | .minL, [.lst _ xs] => match intsOf xs with
    | some is => (minI is).map .int
    | none => match tupsOf xs with
      | some (t :: ts) => some (.tup ((minTs t ts).map .int))
      | _ => none
  | .max2, [.int i, .int j] => some (.int (if j > i then j else i))
  | .min2, [.int i, .int j] => some (.int (if j < i then j else i))
  | .sortedI, [.lst _ xs] => match intsOf xs with
    | some is => if is.length < 64 then some (.lst .nw ((sortI is).map .int)) else none
    | none => none
  | .range1, [.int j] => if -1000000 < j ∧ j < 1000000 then some (.lst .nw (rangeL 0 j)) else none
  | .range2, [.int i, .int j] => if (-1000000 < i ∧ i < 1000000) ∧ -1000000 < j ∧ j < 1000000 then some (.lst .nw (rangeL i j)) else none
  | .range3, [.int i, .int j, .int c] => if c = -1 ∧ (-1000000 < i ∧ i < 1000000) ∧ -1000000 < j ∧ j < 1000000 then some (.lst .nw (rangeD i j)) else none
  | .enum, [v] => match seqOf v with
    | some xs => some (.lst v.kd (enumF 0 xs))
    | none => none
  | .zip, [.tup xs, .tup ys] => some (.lst .nw (zipF xs ys))
  | .zip, [.lst k xs, .lst l ys] => if k ≠ .nw ∧ l ≠ .nw then some (.lst ((MV.lst k xs).kd.or (MV.lst l ys).kd) (zipF xs ys)) else none
  | .sortedI, [.tup xs] => match intsOf xs with
    | some is => if is.length < 64 then some (.lst .nw ((sortI is).map .int)) else none
    | none => none
  | .tuple, [.lst _ xs] => some (.tup xs)
  | .tuple, [.tup xs] => some (.tup xs)
  | .list, [v] => match seqOf v with
    | some xs => some (.lst .nw xs)
    | none => none
  | .int, [.bl b] => some (.int (if b then 1 else 0))
  | .int, [.int i] => some (.int i)
  | .abs, [.int i] => some (.int (if i < 0 then -i else i))
  | .repr, [v] => if v.shr 60 && decide ((PyData.shown v.py).length ≤ SZ) then some (.str (PyData.shown v.py)) else none
  | _, _ => none

/-- methods of built-in types -/
inductive Bm | append | extend | pop | popAt | index | count | get1 | get2 | items
  deriving DecidableEq
def idxOf (x : MV) : List MV → Nat → Option Nat
  | [], _ => none
  | y :: ys, k => if y.eqv x then some k else idxOf x ys (k + 1)
def itemsF (kvs : List (KY × MV)) : List MV := kvs.map fun p => .tup [p.1.mv, p.2]
/-- whose method it is -/
def Bm.recv (m : Bm) (o : MV) : Bool :=
  match m, o with
  | .append, .lst _ _ => true
  | .pop, .lst _ _ => true
  | .popAt, .lst _ _ => true
  | .get2, .dct _ _ _ => true
  | .index, _ => true
  | .count, _ => true
  | .items, .dct _ _ _ => true
  | _, _ => false
/-- o.m(vs); o as it stands -/
def evBm (m : Bm) (o : MV) (vs : List MV) (M : Store) : Res MV :=
  match m, vs with
  | .append, [y] => match o with
    | .ref n => match M.ob n with
      | some (.lst xs) => if xs.length < SZ then .ok .non (M.put n (.lst (xs ++ [y]))) else .stuck
      | _ => .stuck
    | _ => .stuck
  | .pop, [] => match o with
    | .ref n => match M.ob n with
      | some (.lst xs) => match xs[xs.length - 1]? with
        | some y => .ok y (M.put n (.lst xs.dropLast))
        | none => .stuck
      | _ => .stuck
    | _ => .stuck
  | .popAt, [.int i] => match o with
    | .ref n => match M.ob n with
      | some (.lst xs) => if i < 1000000000 then (match atK xs i with
        | some k => match xs[k]? with
          | some y => .ok y (M.put n (.lst (xs.eraseIdx k)))
          | none => .stuck
        | none => .stuck) else .stuck
      | _ => .stuck
    | _ => .stuck
  | .index, [x] => match seqOf (o.dr M) with
    | some ys => if x.shp 60 && (MV.tup ys).shp 60 then ofO ((idxOf x ys 0).map fun (k : Nat) => MV.int k) M else .stuck
    | none => .stuck
  | .count, [.int i] => match seqOf (o.dr M) with
    | some ys => match intsOf ys with
      | some is => .ok (.int (is.count i : Nat)) M
      | none => .stuck
    | none => .stuck
  | .get2, [k, d] => match o.dr M with
    | .dct _ t kvs => match keyT t k with
      | some j => .ok ((dget kvs j).getD d) M
      | none => .stuck
    | _ => .stuck
  | .items, [] => match o.dr M with
    | .dct _ _ kvs => .ok (.lst .nw (itemsF kvs)) M
    | _ => .stuck
  | _, _ => .stuck

inductive Ty | int | bool | str | tup | lst | dct | cls (C : Nat)

/-! ### syntax -/
inductive G where
  | nm (i : Nat)
  | tup (gs : List G)

mutual
inductive E where
  | var (i : Nat)
  | con (c : MV)
  | glb (g : Nat)
  | bin (op : BOp) (a b : E)
  | neg (a : E)
  | nt (a : E)
  | cmp (op : COp) (a b : E)
  | chain (o1 o2 : COp) (a b c : E)
  | andd (a b : E)
  | orr (a b : E)
  | ite (c a b : E)
  | tup (es : Es)
  | lst (es : Es)
  | dct (t : Bool) (ks vs : Es)
  | idx (a i : E)
  | sl (a lo hi : E)
  | stp (a s : E)
  | noE
  | call (f : Nat) (es : Es)
  | make (C : Nat) (es : Es)
  | mkk (C np : Nat) (es : Es) (pat : List (Option MV)) (ks : Es)
  /-- f(.., k = ..) -/
  | callk (f np : Nat) (es : Es) (pat : List (Option MV)) (ks : Es)
  | meth (o : E) (m : Nat) (es : Es)
  | fld (o : E) (f : Nat)
  | bi (b : Bi) (es : Es)
  | bm (m : Bm) (o : E) (es : Es)
  | isin (e : E) (t : Ty)
  | lc (elt : E) (own : List Nat) (g : G) (it : E) (cond : E)
  | lc2 (elt : E) (own own2 : List Nat) (g : G) (it : E) (cond : E) (g2 : G) (it2 : E) (cond2 : E)
  | dc (t : Bool) (k v : E) (own : List Nat) (g : G) (it : E)
  | shr (e : E)
  /-- list(range(a, b)) -/
  | lrg (a b : E)
  /-- tuple(range(a)), list(range(a)) -/
  | rg1 (t : Bool) (a : E)
  /-- D[k](..): a def of a table -/
  | disp (k : E) (D : Str) (tb : List (Str × Nat)) (es : Es)
inductive Es where
  | nil
  | cons (e : E) (es : Es)
end

inductive S where
  | set (i : Nat) (e : E)
  | own (i : Nat) (e : E)
  | asg (g : G) (e : E)
  | par (i j : Nat) (a b : E)
  | setF (o : E) (f : Nat) (e : E)
  | setI (i : Nat) (k e : E)
  | setR (o k e : E)
  | aug (i : Nat) (op : BOp) (e : E)
  | augF (o : E) (f : Nat) (op : BOp) (e : E)
  | app (i : Nat) (e : E)
  | ext (i : Nat) (e : E)
  | popS (g : G) (i : Nat) (k : Option E)
  | expr (e : E)
  | iff (c : E) (a b : List S)
  | whl (c : E) (b : List S)
  | forr (g : G) (it : E) (b : List S)
  | ret (e : E)
  | retN
  | brk
  | cnt
  | pass
  | frz (i : Nat)
  | shr (i : Nat)
  | rais

structure Fd where
  np : Nat
  ns : Nat
  body : List S

structure Tab where
  fn : Nat → Option Fd
  mt : Nat → Nat → Option Nat
  ini : Nat → Option Nat
  glb : Nat → Option MV
  sub : Nat → Nat → Bool
  /-- a class; its instances may have that field -/
  cc : Nat → Bool
  cf : Nat → Nat → Bool
  W : Nat
  /-- C(.., k = ..): so many by place, these names, the parameters behind them -/
  kw : List (Nat × Nat × List Str × List (Option MV)) := []
  /-- a def with parameters that are told by name alone -/
  ko : Nat → Bool := fun _ => false
  /-- f(.., k = ..): as kw, of defs -/
  kf : List (Nat × Nat × List Str × List (Option MV)) := []

inductive Out where
  | nx | brk | ct | ret (v : MV)

/-! ### the evaluator -/
def wipe (ρ : Env) : List Nat → Env
  | [] => ρ
  | i :: is => (wipe ρ is).set i none
mutual
def bindG : G → MV → Env → Option Env
  | .nm i, u, ρ => if i < ρ.length then some (ρ.set i (some (.v u))) else none
  | .tup gs, v, ρ => match v with
    | .tup xs => bindGs gs xs ρ
    | _ => none
def bindGs : List G → List MV → Env → Option Env
  | [], [], ρ => some ρ
  | g :: gs, x :: xs, ρ => match bindG g x ρ with
    | some ρ' => bindGs gs xs ρ'
    | none => none
  | _, _, _ => none
end

def MObj.ty (T : Tab) : MObj → Ty → Option Bool
  | .lst _, .lst => some true
  | .lst _, _ => some false
  | .dct _ _, .dct => some true
  | .dct _ _, _ => some false
  | .ins D _, .cls C => if T.cc D then some (T.sub D C) else none
  | .ins D _, _ => if T.cc D then some false else none
def isTy (T : Tab) (M : Store) (v : MV) (t : Ty) : Option Bool :=
  match v with
  | .ref n => match M.ob n with
    | some o => o.ty T t
    | none => none
  | .non => some false
  | .int _ => match t with | .int => some true | _ => some false
  | .bl _ => match t with | .int => some true | .bool => some true | _ => some false
  | .str _ => match t with | .str => some true | _ => some false
  | .tup _ => match t with | .tup => some true | _ => some false
  | .lst _ _ => match t with | .lst => some true | _ => some false
  | .dct _ _ _ => match t with | .dct => some true | _ => some false
  | .st _ _ => none

/-- a comprehension's turns; `step` gives the item's value, or none where it is left out -/
def lcL (step : MV → Store → Res (Option MV)) : List MV → List MV → Store → Res (List MV)
  | [], acc, M => .ok acc M
  | x :: xs, acc, M => (step x M).bind fun r M' => match r with
    | some y => if acc.length < SZ then lcL step xs (acc ++ [y]) M' else .stuck
    | none => lcL step xs acc M'
def lcL2 (step : MV → List MV → Store → Res (List MV)) : List MV → List MV → Store → Res (List MV)
  | [], acc, M => .ok acc M
  | x :: xs, acc, M => (step x acc M).bind fun acc' M' => lcL2 step xs acc' M'
def dcL (step : MV → Store → Res (KY × MV)) : List MV → List (KY × MV) → Store → Res (List (KY × MV))
  | [], acc, M => .ok acc M
  | x :: xs, acc, M => (step x M).bind fun p M' => if acc.length < SZ then dcL step xs (dput acc p.1 p.2) M' else .stuck
def forL (step : MV → Env → Store → Res (Out × Env)) : List MV → Env → Store → Res (Out × Env)
  | [], ρ, M => .ok (.nx, ρ) M
  | x :: xs, ρ, M => (step x ρ M).bind fun r M' => match r.1 with
    | .nx => forL step xs r.2 M'
    | .ct => forL step xs r.2 M'
    | .brk => .ok (.nx, r.2) M'
    | .ret v => .ok (.ret v, r.2) M'
def whlL (c : Env → Store → Res Bool) (b : Env → Store → Res (Out × Env)) : Nat → Env → Store → Res (Out × Env)
  | 0, _, _ => .stuck
  | n + 1, ρ, M => (c ρ M).bind fun t M' => if t then (b ρ M').bind fun r M'' => (match r.1 with
      | .nx => whlL c b n r.2 M''
      | .ct => whlL c b n r.2 M''
      | .brk => .ok (.nx, r.2) M''
      | .ret v => .ok (.ret v, r.2) M'') else .ok (.nx, ρ) M'

/-- the parameters that are told by name: defaults, what is handed in -/
def fillG {α : Type} : List (Option MV) → List α → List α → List α
  | [], _, _ => []
  | none :: p, ms, z :: zs => z :: fillG p ms zs
  | some _ :: p, m :: ms, zs => m :: fillG p ms zs
  | _, _, _ => []
def fillM (p : List (Option MV)) (zs : List MV) : List MV := fillG p (p.filterMap id) zs
section
variable (T : Tab) (call : Nat → List MV → Store → Res MV)
/-- what a loop walks: not a list that a name still has -/
def itemsOf : MV → Option (List MV)
  | .tup xs => some xs
  | .lst .fz xs => some xs
  | .lst .ro xs => some xs
  | _ => none
def getV (ρ : Env) (i : Nat) : Option MV :=
  match ρ[i]? with
  | some (some (.v m)) => some m
  | some (some (.ol xs)) => some (.lst .bw xs)
  | some (some (.od t kvs)) => some (.dct .bw t kvs)
  | some (some (.os xs)) => some (.st .bw xs)
  | _ => none
def putF (f : Nat) (v : MV) : List (Nat × MV) → List (Nat × MV)
  | [] => [(f, v)]
  | (g, u) :: r => if g = f then (g, v) :: r else (g, u) :: putF f v r
def getF (fs : List (Nat × MV)) (f : Nat) : Option MV :=
  match fs with
  | [] => none
  | (g, u) :: r => if g = f then some u else getF r f
def insOf (M : Store) : MV → Option (Nat × Nat × List (Nat × MV))
  | .ref n => match M.ob n with
    | some (.ins C fs) => some (n, C, fs)
    | _ => none
  | _ => none

mutual
def evE : E → Env → Store → Res MV
  | .var i, ρ, M => ofO (getV ρ i) M
  | .con c, _, M => .ok c M
  | .glb g, _, M => ofO (T.glb g) M
  | .bin op a b, ρ, M => (evE a ρ M).bind fun x M1 => (evE b ρ M1).bind fun y M2 => ofO (binM op (x.dr M2) (y.dr M2)) M2
  | .neg a, ρ, M => (evE a ρ M).bind fun x M1 => match x with
    | .int i => .ok (.int (-i)) M1
    | _ => .stuck
  | .nt a, ρ, M => (evE a ρ M).bind fun x M1 => ofO ((truth (x.dr M1)).map fun b => MV.bl (!b)) M1
  | .cmp op a b, ρ, M => (evE a ρ M).bind fun x M1 => (evE b ρ M1).bind fun y M2 => ofO ((cmpM op (x.dr M2) (y.dr M2)).map .bl) M2
  | .chain o1 o2 a b c, ρ, M => (evE a ρ M).bind fun x M1 => (evE b ρ M1).bind fun y M2 => (ofO (cmpM o1 x y) M2).bind fun t M3 =>
      if t then (evE c ρ M3).bind fun z M4 => ofO ((cmpM o2 y z).map .bl) M4 else .ok (.bl false) M3
  | .andd a b, ρ, M => (evE a ρ M).bind fun x M1 => (ofO (truth (x.dr M1)) M1).bind fun t M2 => if t then evE b ρ M2 else .ok x M2
  | .orr a b, ρ, M => (evE a ρ M).bind fun x M1 => (ofO (truth (x.dr M1)) M1).bind fun t M2 => if t then .ok x M2 else evE b ρ M2
  | .ite c a b, ρ, M => (evE c ρ M).bind fun x M1 => (ofO (truth (x.dr M1)) M1).bind fun t M2 => if t then evE a ρ M2 else evE b ρ M2
  | .tup es, ρ, M => (evFs es ρ M).bind fun ys M2 => if ys.length ≤ SZ then .ok (.tup ys) M2 else .stuck
  | .lst es, ρ, M => (evFs es ρ M).bind fun ys M2 => if ys.length ≤ SZ then .ok (.lst .nw ys) M2 else .stuck
  | .dct t ks vs, ρ, M => (evFs ks ρ M).bind fun xs M1 => (evFs vs ρ M1).bind fun ys M2 => match xs, ys with
    | [], [] => .ok (.dct .nw t []) M2
    | [x], [y] => match keyT t x with
      | some k => .ok (.dct .nw t [(k, y)]) M2
      | none => .stuck
    | _, _ => .stuck
  | .idx a i, ρ, M => (evE a ρ M).bind fun x M1 => (evE i ρ M1).bind fun y M2 => ofO (idxM (x.dr M2) y) M2
  | .sl a lo hi, ρ, M => (evE a ρ M).bind fun x M1 => (evO lo ρ M1).bind fun l M2 => (evO hi ρ M2).bind fun h M3 => ofO (slM (x.dr M3) l h) M3
  | .stp a s, ρ, M => (evE a ρ M).bind fun x M1 => (evE s ρ M1).bind fun y M2 => ofO (stpM (x.dr M2) (y.dr M2)) M2
  | .noE, _, _ => .stuck
  | .call f es, ρ, M => (evFs es ρ M).bind fun ys M2 => call f ys M2
  | .make C es, ρ, M => (evFs es ρ M).bind fun ys M2 => match T.ini C with
    | some f => (call f (.ref M2.nx :: ys) (M2.add (.ins C []))).bind fun r M3 => (match r with
      | .non => .ok (.ref M2.nx) M3
      | _ => .stuck)
    | none => .stuck
  | .mkk C np es pat ks, ρ, M => (evFs es ρ M).bind fun ys M1 => (evFs ks ρ M1).bind fun zs M2 => match T.ini C with
    | some f => if ys.length = np ∧ zs.length = (pat.filter (·.isNone)).length then (call f (.ref M2.nx :: (ys ++ fillM pat zs)) (M2.add (.ins C []))).bind fun r M3 => (match r with
      | .non => .ok (.ref M2.nx) M3
      | _ => .stuck) else .stuck
    | none => .stuck
  | .callk f np es pat ks, ρ, M => (evFs es ρ M).bind fun ys M1 => (evFs ks ρ M1).bind fun zs M2 => if ys.length = np ∧ zs.length = (pat.filter (·.isNone)).length then call f (ys ++ fillM pat zs) M2 else .stuck
  | .meth o m es, ρ, M => (evE o ρ M).bind fun x M1 => match insOf M1 x with
    | some (n, C, fs) => match T.mt C m with
      | some f => if (getF fs m).isNone then (evFs es ρ M1).bind fun ys M3 => call f (.ref n :: ys) M3 else .stuck
      | none => .stuck
    | none => .stuck
  | .fld o f, ρ, M => (evE o ρ M).bind fun x M1 => match insOf M1 x with
    | some (_, C, fs) => if T.cf C f then ofO (getF fs f) M1 else .stuck
    | none => .stuck
  | .bi b es, ρ, M => (evEs es ρ M).bind fun xs M1 => ofO (evBi b (if b.it = true then xs else xs.map (·.dr M1))) M1
  | .bm m o es, ρ, M => (evE o ρ M).bind fun x M1 => if m.recv (x.dr M1) then (evFs es ρ M1).bind fun ys M2 => evBm m x ys M2 else .stuck
  | .isin e t, ρ, M => (evE e ρ M).bind fun x M1 => ofO ((isTy T M1 x t).map .bl) M1
  | .lc elt own g it cond, ρ, M => (evE it ρ M).bind fun v M1 => (ofO (seqOf v) M1).bind fun xs M2 =>
      (lcL (fun x M => (ofO (bindG g x (wipe ρ own)) M).bind fun ρ1 M1 => (evE cond ρ1 M1).bind fun c M2 => (ofO (truth (c.dr M2)) M2).bind fun t M3 =>
        if t then (evE elt ρ1 M3).bind fun y M4 => (ofO y.frz M4).bind fun u M5 => .ok (some u) M5 else .ok none M3) xs [] M2).bind fun ys M3 => .ok (.lst .nw ys) M3
  | .lc2 elt own own2 g it cond g2 it2 cond2, ρ, M => (evE it ρ M).bind fun v M1 => (ofO (seqOf v) M1).bind fun xs M2 =>
      (lcL2 (fun x acc M => (ofO (bindG g x (wipe ρ own)) M).bind fun ρ1 M1 => (evE cond ρ1 M1).bind fun c M2 => (ofO (truth (c.dr M2)) M2).bind fun t M3 =>
        if t then (evE it2 ρ1 M3).bind fun v2 M4 => (ofO (seqOf v2) M4).bind fun xs2 M5 =>
          lcL (fun x2 M => (ofO (bindG g2 x2 (wipe ρ1 own2)) M).bind fun ρ2 M1 => (evE cond2 ρ2 M1).bind fun c M2 => (ofO (truth (c.dr M2)) M2).bind fun t M3 =>
            if t then (evE elt ρ2 M3).bind fun y M4 => (ofO y.frz M4).bind fun u M5 => .ok (some u) M5 else .ok none M3) xs2 acc M5
        else .ok acc M3) xs [] M2).bind fun ys M3 => .ok (.lst .nw ys) M3
  | .dc t k v own g it, ρ, M => (evE it ρ M).bind fun v0 M1 => (ofO (seqOf v0) M1).bind fun xs M2 =>
      (dcL (fun x M => (ofO (bindG g x (wipe ρ own)) M).bind fun ρ1 M1 => (evE k ρ1 M1).bind fun a M2 => (ofO (keyT t a) M2).bind fun ky M3 =>
        (evE v ρ1 M3).bind fun y M4 => (ofO y.frz M4).bind fun u M5 => .ok (ky, u) M5) xs [] M2).bind fun kvs M3 => .ok (.dct .nw t kvs) M3
  | .lrg a b, ρ, M => (evE a ρ M).bind fun x M1 => (evE b ρ M1).bind fun y M2 => match x, y with
    | .int i, .int j => if (-1000000 < i ∧ i < 1000000) ∧ -1000000 < j ∧ j < 1000000 then .ok (.lst .nw (rangeL i j)) M2 else .stuck
    | _, _ => .stuck
  | .rg1 t a, ρ, M => (evE a ρ M).bind fun x M1 => match x with
    | .int j => if -1000000 < j ∧ j < 1000000 then .ok (if t = true then .tup (rangeL 0 j) else .lst .nw (rangeL 0 j)) M1 else .stuck
    | _ => .stuck
  | .disp k _ tb es, ρ, M => (evE k ρ M).bind fun x M1 => match x with
    | .str s => match tb.lookup s with
      | some f => (evFs es ρ M1).bind fun ys M2 => call f ys M2
      | none => .stuck
    | _ => .stuck
  | .shr e, ρ, M => (evE e ρ M).bind fun x M1 => match x with
    | .lst .nw xs => .ok (.ref M1.nx) (M1.add (.lst xs))
    | _ => .stuck
def evEs : Es → Env → Store → Res (List MV)
  | .nil, _, M => .ok [] M
  | .cons e es, ρ, M => (evE e ρ M).bind fun x M1 => (evEs es ρ M1).bind fun xs M2 => .ok (x :: xs) M2
/-- what is to be kept -/
def evFs : Es → Env → Store → Res (List MV)
  | .nil, _, M => .ok [] M
  | .cons e es, ρ, M => (evE e ρ M).bind fun x M1 => (ofO x.frz M1).bind fun y M2 => (evFs es ρ M2).bind fun ys M3 => .ok (y :: ys) M3
/-- a slice's part -/
def evO : E → Env → Store → Res (Option Int)
  | .noE, _, M => .ok none M
  | e, ρ, M => (evE e ρ M).bind fun x M1 => match x with
    | .int i => .ok (some i) M1
    | _ => .stuck
end
def evT (e : E) (ρ : Env) (M : Store) : Res Bool := (evE T call e ρ M).bind fun x M1 => ofO (truth (x.dr M1)) M1

def nxt (r : Option Env) (M : Store) : Res (Out × Env) :=
  match r with
  | some ρ => .ok (.nx, ρ) M
  | none => .stuck
def setV (ρ : Env) (i : Nat) (u : MV) : Option Env := if i < ρ.length then some (ρ.set i (some (.v u))) else none
def setO (ρ : Env) (i : Nat) (x : MV) : Option Env :=
  if i < ρ.length then (match x with
  | .lst .nw xs => some (ρ.set i (some (.ol xs)))
  | .dct .nw t kvs => some (ρ.set i (some (.od t kvs)))
  | .st .nw xs => some (ρ.set i (some (.os xs)))
  | _ => none) else none
/-- what is to be kept -/
def evF (e : E) (ρ : Env) (M : Store) : Res MV := (evE T call e ρ M).bind fun x M1 => ofO x.frz M1
mutual
def evS : S → Env → Store → Res (Out × Env)
  | .set i e, ρ, M => (evF T call e ρ M).bind fun x M1 => nxt (setV ρ i x) M1
  | .own i e, ρ, M => (evE T call e ρ M).bind fun x M1 => nxt (setO ρ i x) M1
  | .asg g e, ρ, M => (evF T call e ρ M).bind fun x M1 => nxt (bindG g x ρ) M1
  | .par i j a b, ρ, M => (evF T call a ρ M).bind fun x M1 => (evF T call b ρ M1).bind fun y M2 => nxt ((setV ρ i x).bind fun ρ1 => setV ρ1 j y) M2
  | .setF o f e, ρ, M => (evF T call e ρ M).bind fun u M1 => (evE T call o ρ M1).bind fun x M2 => match insOf M2 x with
    | some (n, C, fs) => if fs.length < 900 ∧ T.cf C f = true then .ok (.nx, ρ) (M2.put n (.ins C (putF f u fs))) else .stuck
    | none => .stuck
  | .setI i k e, ρ, M => (evF T call e ρ M).bind fun u M1 => (evE T call k ρ M1).bind fun x M2 => match ρ[i]? with
    | some (some (.ol xs)) => (match x with
      | .int j => match atK xs j with
        | some p => .ok (.nx, ρ.set i (some (.ol (xs.set p u)))) M2
        | none => .stuck
      | _ => .stuck)
    | some (some (.od t kvs)) => (match keyT t x with
      | some ky => if kvs.length < SZ then .ok (.nx, ρ.set i (some (.od t (dput kvs ky u)))) M2 else .stuck
      | none => .stuck)
    | _ => .stuck
  | .setR o k e, ρ, M => (evF T call e ρ M).bind fun u M1 => (evE T call o ρ M1).bind fun x M2 => (evE T call k ρ M2).bind fun z M3 => match x with
    | .ref n => (match M3.ob n with
      | some (.lst xs) => (match z with
        | .int j => match atK xs j with
          | some p => .ok (.nx, ρ) (M3.put n (.lst (xs.set p u)))
          | none => .stuck
        | _ => .stuck)
      | some (.dct t kvs) => (match keyT t z with
        | some ky => if kvs.length < SZ then .ok (.nx, ρ) (M3.put n (.dct t (dput kvs ky u))) else .stuck
        | none => .stuck)
      | _ => .stuck)
    | _ => .stuck
  | .aug i op e, ρ, M => (match ρ[i]? with
    | some (some (.v (.int a))) => (evE T call e ρ M).bind fun y M1 => (match op, y with
      | .add, .int b => nxt (setV ρ i (.int (a + b))) M1
      | .sub, .int b => nxt (setV ρ i (.int (a - b))) M1
      | _, _ => .stuck)
    | _ => .stuck)
  | .augF o f op e, ρ, M => (evE T call o ρ M).bind fun x M1 => match insOf M1 x with
    | some (n, C, fs) => (match getF fs f with
      | some (.int a) => (evE T call e ρ M1).bind fun y M2 => (match y with
        | .int b => (match binM op (.int a) (.int b), insOf M2 x with
          | some z, some (_, D, fs2) => if fs2.length < 900 ∧ D = C ∧ T.cf C f = true then .ok (.nx, ρ) (M2.put n (.ins C (putF f z fs2))) else .stuck
          | _, _ => .stuck)
        | _ => .stuck)
      | _ => .stuck)
    | none => .stuck
  | .app i e, ρ, M => (evF T call e ρ M).bind fun u M1 => match ρ[i]? with
    | some (some (.ol xs)) => if xs.length < SZ then .ok (.nx, ρ.set i (some (.ol (xs ++ [u])))) M1 else .stuck
    | _ => .stuck
  | .ext i e, ρ, M => (evE T call e ρ M).bind fun x M1 => match ρ[i]?, x with
    | some (some (.ol xs)), .lst .nw ys => if xs.length + ys.length ≤ SZ then .ok (.nx, ρ.set i (some (.ol (xs ++ ys)))) M1 else .stuck
    | _, _ => .stuck
  | .popS g i k, ρ, M => (match k with
    | none => (match ρ[i]? with
      | some (some (.ol xs)) => (match xs[xs.length - 1]? with
        | some y => nxt (bindG g y (ρ.set i (some (.ol xs.dropLast)))) M
        | none => .stuck)
      | _ => .stuck)
    | some e => (evE T call e ρ M).bind fun x M1 => (match ρ[i]?, x with
      | some (some (.ol xs)), .int j => if j < 1000000000 then (match atK xs j with
        | some p => (match xs[p]? with
          | some y => nxt (bindG g y (ρ.set i (some (.ol (xs.eraseIdx p))))) M1
          | none => .stuck)
        | none => .stuck) else .stuck
      | _, _ => .stuck))
  | .expr e, ρ, M => (evE T call e ρ M).bind fun _ M1 => .ok (.nx, ρ) M1
  | .iff c a b, ρ, M => (evT T call c ρ M).bind fun t M1 => if t then evSs a ρ M1 else evSs b ρ M1
  | .whl c b, ρ, M => whlL (fun ρ M => evT T call c ρ M) (fun ρ M => evSs b ρ M) T.W ρ M
  | .forr g it b, ρ, M => (evF T call it ρ M).bind fun v M1 => (ofO (itemsOf v) M1).bind fun xs M2 =>
      forL (fun x ρ M => (ofO (bindG g x ρ) M).bind fun ρ1 M1 => evSs b ρ1 M1) xs ρ M2
  | .ret e, ρ, M => (evE T call e ρ M).bind fun x M1 => .ok (.ret x.out, ρ) M1
  | .retN, ρ, M => .ok (.ret .non, ρ) M
  | .brk, ρ, M => .ok (.brk, ρ) M
  | .cnt, ρ, M => .ok (.ct, ρ) M
  | .pass, ρ, M => .ok (.nx, ρ) M
  | .frz i, ρ, M => (match ρ[i]? with
    | some (some (.ol xs)) => .ok (.nx, ρ.set i (some (.v (.lst .fz xs)))) M
    | some (some (.od t kvs)) => .ok (.nx, ρ.set i (some (.v (.dct .fz t kvs)))) M
    | some (some (.os xs)) => .ok (.nx, ρ.set i (some (.v (.st .fz xs)))) M
    | some (some (.v _)) => .ok (.nx, ρ) M
    | _ => .stuck)
  | .shr i, ρ, M => (match ρ[i]? with
    | some (some (.ol xs)) => .ok (.nx, ρ.set i (some (.v (.ref M.nx)))) (M.add (.lst xs))
    | some (some (.od t kvs)) => .ok (.nx, ρ.set i (some (.v (.ref M.nx)))) (M.add (.dct t kvs))
    | _ => .stuck)
  | .rais, _, _ => .stuck
def evSs : List S → Env → Store → Res (Out × Env)
  | [], ρ, M => .ok (.nx, ρ) M
  | s :: ss, ρ, M => (evS s ρ M).bind fun r M1 => match r.1 with
    | .nx => evSs ss r.2 M1
    | _ => .ok r M1
end
end

def start (ns : Nat) (args : List MV) : Env := args.map (fun v => some (.v v)) ++ List.replicate (ns - args.length) none
def evC (T : Tab) : Nat → Nat → List MV → Store → Res MV
  | 0, _, _, _ => .stuck
  | d + 1, f, args, M => match T.fn f with
    | some fd => if args.length = fd.np then (evSs T (evC T d) fd.body (start fd.ns args) M).bind fun r M1 => match r.1 with
        | .ret v => .ok v M1
        | .nx => .ok .non M1
        | _ => .stuck
      else .stuck
    | none => .stuck
end Q

/-! EvB: values of the evaluator in the abstract heap; worlds. -/
namespace Q
open PySem L2

structure Gam where
  K : PySem.W.Frag
  nm : Nat → Str
  cl : Nat → Addr
  kc : List (Addr × List V)
  ki : ∀ p ∈ kc, ∀ is : List Int, is ≠ [] → p.2 ≠ is.map V.int
  ni : ∀ i j, nm i = nm j → i = j

structure Wd where
  F : Addr → Prop
  μ : Nat → Addr
  H : Hp
  M : Store
  O : Addr → Prop
def Wd.al (w : Wd) (a : Addr) : Prop := ∃ n o, w.M.ob n = some o ∧ w.μ n = a

/-- a constant tuple of the text -/
def KT (Γ : Gam) (a : Addr) (vs : List V) : Prop :=
  (a, vs) ∈ Γ.kc ∧ ∃ (o : Obj) (its : Array Value) (n : Nat), Γ.K.lookup a = some o ∧ o.cls = .type "tuple" ∧ o.data = .seq its n ∧ its.size ≤ sizeLine ∧ Vals vs its.toList
/-- a constant list -/
def KL (Γ : Gam) (a : Addr) (vs : List V) : Prop :=
  ∃ (o : Obj) (its : Array Value) (n : Nat), Γ.K.lookup a = some o ∧ o.cls = .type "list" ∧ o.dict = none ∧ o.data = .seq its n ∧ its.size ≤ sizeLine ∧ Vals vs its.toList
mutual
inductive Rep (Γ : Gam) (w : Wd) : MV → V → Prop
  | non : Rep Γ w .non .non
  | bl (b) : Rep Γ w (.bl b) (.bl b)
  | int (i) : Rep Γ w (.int i) (.int i)
  | str (s) : Rep Γ w (.str s) (.str s)
  | tup {xs a vs} : (w.F a ∧ w.H a = some (.tup vs)) ∨ KT Γ a vs → Reps Γ w xs vs → Rep Γ w (.tup xs) (.ref a)
  | lst {xs a vs} : w.F a → w.H a = some (.lst vs) → Reps Γ w xs vs → Rep Γ w (.lst .fz xs) (.ref a)
  | lro {xs a vs} : (w.F a ∧ ∃ o, w.H a = some (.frz o (.lst vs))) ∨ KL Γ a vs → Reps Γ w xs vs → Rep Γ w (.lst .ro xs) (.ref a)
  | dK {kvs a ps} : w.F a → w.H a = some (.dK ps) → RepK Γ w kvs ps → Rep Γ w (.dct .fz false kvs) (.ref a)
  | dT {kvs a ps} : w.F a → w.H a = some (.dT ps) → RepT Γ w kvs ps → Rep Γ w (.dct .fz true kvs) (.ref a)
  | ref {n} : n < w.M.nx → Rep Γ w (.ref n) (.ref (w.μ n))
inductive Reps (Γ : Gam) (w : Wd) : List MV → List V → Prop
  | nil : Reps Γ w [] []
  | cons {x v xs vs} : Rep Γ w x v → Reps Γ w xs vs → Reps Γ w (x :: xs) (v :: vs)
inductive RepK (Γ : Gam) (w : Wd) : List (KY × MV) → List (Key × V) → Prop
  | nil : RepK Γ w [] []
  | cons {k x v xs vs} : Rep Γ w x v → RepK Γ w xs vs → RepK Γ w ((.one k, x) :: xs) ((k, v) :: vs)
inductive RepT (Γ : Gam) (w : Wd) : List (KY × MV) → List (List Key × V) → Prop
  | nil : RepT Γ w [] []
  | cons {k x v xs vs} : Rep Γ w x v → RepT Γ w xs vs → RepT Γ w ((.tup k, x) :: xs) ((k.map Sum.inl, v) :: vs)
end
inductive RepF (Γ : Gam) (w : Wd) : List (Nat × MV) → List (Str × V) → Prop
  | nil : RepF Γ w [] []
  | cons {f x v xs vs} : Rep Γ w x v → RepF Γ w xs vs → RepF Γ w ((f, x) :: xs) ((Γ.nm f, v) :: vs)

/-- the frozen part and the names stay -/
structure Stay (w w' : Wd) : Prop where
  F : ∀ a, w.F a → w'.F a ∧ w'.H a = w.H a
  μ : ∀ n, n < w.M.nx → w'.μ n = w.μ n
  nx : w.M.nx ≤ w'.M.nx
theorem Stay.refl (w : Wd) : Stay w w := ⟨fun _ h => ⟨h, rfl⟩, fun _ _ => rfl, Nat.le_refl _⟩
theorem Stay.trans {a b c : Wd} (x : Stay a b) (y : Stay b c) : Stay a c :=
  ⟨fun p h => ⟨(y.F p (x.F p h).1).1, (y.F p (x.F p h).1).2.trans (x.F p h).2⟩, fun n h => (y.μ n (Nat.lt_of_lt_of_le h x.nx)).trans (x.μ n h), Nat.le_trans x.nx y.nx⟩
section
variable {Γ : Gam} {w w' : Wd}
mutual
theorem Rep.stay (s : Stay w w') : ∀ {x : MV} {v : V}, Rep Γ w x v → Rep Γ w' x v
  | _, _, .non => .non
  | _, _, .bl b => .bl b
  | _, _, .int i => .int i
  | _, _, .str x => .str x
  | _, _, .tup h r => .tup (by
      rcases h with ⟨h1, h2⟩ | h
      · exact .inl ⟨(s.F _ h1).1, (s.F _ h1).2.trans h2⟩
      · exact .inr h) (Reps.stay s r)
  | _, _, .lst h1 h2 r => .lst (s.F _ h1).1 ((s.F _ h1).2.trans h2) (Reps.stay s r)
  | _, _, .lro h r => .lro (h.imp (fun ⟨h1, o, h2⟩ => ⟨(s.F _ h1).1, o, (s.F _ h1).2.trans h2⟩) id) (Reps.stay s r)
  | _, _, .dK h1 h2 r => .dK (s.F _ h1).1 ((s.F _ h1).2.trans h2) (RepK.stay s r)
  | _, _, .dT h1 h2 r => .dT (s.F _ h1).1 ((s.F _ h1).2.trans h2) (RepT.stay s r)
  | _, _, .ref (n := n) h => by
    have e := s.μ n h
    rw [← e]
    exact .ref (Nat.lt_of_lt_of_le h s.nx)
theorem Reps.stay (s : Stay w w') : ∀ {xs : List MV} {vs : List V}, Reps Γ w xs vs → Reps Γ w' xs vs
  | _, _, .nil => .nil
  | _, _, .cons r t => .cons (Rep.stay s r) (Reps.stay s t)
theorem RepK.stay (s : Stay w w') : ∀ {xs : List (KY × MV)} {vs : List (Key × V)}, RepK Γ w xs vs → RepK Γ w' xs vs
  | _, _, .nil => .nil
  | _, _, .cons r t => .cons (Rep.stay s r) (RepK.stay s t)
theorem RepT.stay (s : Stay w w') : ∀ {xs : List (KY × MV)} {vs : List (List Key × V)}, RepT Γ w xs vs → RepT Γ w' xs vs
  | _, _, .nil => .nil
  | _, _, .cons r t => .cons (Rep.stay s r) (RepT.stay s t)
end
theorem RepF.stay (s : Stay w w') : ∀ {xs : List (Nat × MV)} {vs : List (Str × V)}, RepF Γ w xs vs → RepF Γ w' xs vs
  | _, _, .nil => .nil
  | _, _, .cons r t => .cons (Rep.stay s r) (RepF.stay s t)
theorem Reps.length : ∀ {xs : List MV} {vs : List V}, Reps Γ w xs vs → xs.length = vs.length
  | _, _, .nil => rfl
  | _, _, .cons _ t => by rw [List.length_cons, List.length_cons, Reps.length t]
theorem Reps.get : ∀ {xs : List MV} {vs : List V} {i : Nat} {x : MV}, Reps Γ w xs vs → xs[i]? = some x → ∃ v, vs[i]? = some v ∧ Rep Γ w x v
  | _, _, _, _, .nil, e => by simp at e
  | _, _, 0, _, .cons r _, e => by simp at e; subst e; exact ⟨_, rfl, r⟩
  | _, _, i + 1, x, .cons _ t, e => by
    obtain ⟨u, h1, h2⟩ := Reps.get (i := i) (x := x) t (by simpa using e)
    exact ⟨u, by simpa using h1, h2⟩
theorem Reps.append : ∀ {xs ys : List MV} {vs us : List V}, Reps Γ w xs vs → Reps Γ w ys us → Reps Γ w (xs ++ ys) (vs ++ us)
  | _, _, _, _, .nil, s => s
  | _, _, _, _, .cons r t, s => .cons r (Reps.append t s)
theorem Reps.take : ∀ {xs : List MV} {vs : List V} (n : Nat), Reps Γ w xs vs → Reps Γ w (xs.take n) (vs.take n)
  | _, _, 0, _ => .nil
  | _, _, _ + 1, .nil => .nil
  | _, _, n + 1, .cons r t => .cons r (Reps.take n t)
theorem Reps.drop : ∀ {xs : List MV} {vs : List V} (n : Nat), Reps Γ w xs vs → Reps Γ w (xs.drop n) (vs.drop n)
  | _, _, 0, r => r
  | _, _, _ + 1, .nil => .nil
  | _, _, n + 1, .cons _ t => Reps.drop n t
theorem Reps.set {x : MV} {v : V} (r : Rep Γ w x v) : ∀ {xs : List MV} {vs : List V} (i : Nat), Reps Γ w xs vs → Reps Γ w (xs.set i x) (vs.set i v)
  | _, _, _, .nil => .nil
  | _, _, 0, .cons _ t => .cons r t
  | _, _, i + 1, .cons q t => .cons q (Reps.set r i t)
theorem Reps.eraseIdx : ∀ {xs : List MV} {vs : List V} (i : Nat), Reps Γ w xs vs → Reps Γ w (xs.eraseIdx i) (vs.eraseIdx i)
  | _, _, _, .nil => .nil
  | _, _, 0, .cons _ t => t
  | _, _, i + 1, .cons q t => .cons q (Reps.eraseIdx i t)
theorem Reps.dropLast : ∀ {xs : List MV} {vs : List V}, Reps Γ w xs vs → Reps Γ w xs.dropLast vs.dropLast
  | _, _, .nil => .nil
  | _, _, .cons _ .nil => .nil
  | _, _, .cons q (.cons r t) => .cons q (Reps.dropLast (.cons r t))
theorem Reps.rep {xs : List MV} {vs : List V} (r : Reps Γ w xs vs) : ∀ k : Nat, Reps Γ w (List.replicate k xs).flatten (List.replicate k vs).flatten
  | 0 => .nil
  | k + 1 => by
    rw [List.replicate_succ, List.replicate_succ, List.flatten_cons, List.flatten_cons]
    exact r.append (Reps.rep r k)
theorem Reps.one {x : MV} {vs : List V} (r : Reps Γ w [x] vs) : ∃ v, vs = [v] ∧ Rep Γ w x v := by
  cases r with
  | cons a b => cases b; exact ⟨_, rfl, a⟩
theorem Reps.nil_iff {xs : List MV} {vs : List V} (r : Reps Γ w xs vs) : xs = [] ↔ vs = [] := by
  cases r <;> simp
/-- frozen sequences are readable -/
theorem Rep.seqT {xs : List MV} {v : V} (r : Rep Γ w (.tup xs) v) : ∃ a vs, v = .ref a ∧ SqT Γ.K w.H a vs ∧ Reps Γ w xs vs := by
  cases r with
  | tup h r =>
    refine ⟨_, _, rfl, ?_, r⟩
    rcases h with ⟨_, h⟩ | h
    · exact .inl (.inl h)
    · exact .inr h.2
theorem Rep.seqL {k : Kd} {xs : List MV} {v : V} (r : Rep Γ w (.lst k xs) v) : ∃ a vs, v = .ref a ∧ (k ≠ .ro → w.H a = some (.lst vs)) ∧ SqL Γ.K w.H a vs ∧ Reps Γ w xs vs := by
  cases r with
  | lst _ h r => exact ⟨_, _, rfl, fun _ => h, .inl (.inl h), r⟩
  | lro h r => exact ⟨_, _, rfl, fun z => absurd rfl z, h.imp (fun ⟨_, o, h2⟩ => .inr ⟨o, h2⟩) id, r⟩
end

/-- a dict as it stands -/
def RepD (Γ : Gam) (w : Wd) (t : Bool) (kvs : List (KY × MV)) (a : Addr) : Prop :=
  if t = true then ∃ ps, w.H a = some (.dT ps) ∧ RepT Γ w kvs ps else ∃ ps, w.H a = some (.dK ps) ∧ RepK Γ w kvs ps
theorem RepD.stay {Γ : Gam} {w w' : Wd} {t : Bool} {kvs : List (KY × MV)} {a : Addr} (r : RepD Γ w t kvs a) (s : Stay w w') (h : ∀ o, w.H a = some o → w'.H a = some o) : RepD Γ w' t kvs a := by
  unfold RepD at r ⊢
  split at r
  · rename_i e
    rw [if_pos e]
    obtain ⟨ps, h1, r⟩ := r
    exact ⟨ps, h _ h1, r.stay s⟩
  · rename_i e
    rw [if_neg e]
    obtain ⟨ps, h1, r⟩ := r
    exact ⟨ps, h _ h1, r.stay s⟩
theorem RepD.some {Γ : Gam} {w : Wd} {t : Bool} {kvs : List (KY × MV)} {a : Addr} (r : RepD Γ w t kvs a) : ∃ o, w.H a = some o := by
  unfold RepD at r
  split at r
  · obtain ⟨ps, h1, r⟩ := r; exact ⟨_, h1⟩
  · obtain ⟨ps, h1, r⟩ := r; exact ⟨_, h1⟩

/-! ### values on their way -/
/-- a value that an expression gives -/
def RepV (Γ : Gam) (w : Wd) (x : MV) (v : V) : Prop :=
  match x with
  | .lst .nw xs => ∃ a vs, v = .ref a ∧ w.H a = some (.lst vs) ∧ Reps Γ w xs vs ∧ ¬ w.F a ∧ ¬ w.O a ∧ ¬ w.al a
  | .lst .bw xs => ∃ a vs, v = .ref a ∧ w.H a = some (.lst vs) ∧ Reps Γ w xs vs ∧ w.O a
  | .dct .nw t kvs => ∃ a, v = .ref a ∧ RepD Γ w t kvs a ∧ ¬ w.F a ∧ ¬ w.O a ∧ ¬ w.al a
  | .dct .bw t kvs => ∃ a, v = .ref a ∧ RepD Γ w t kvs a ∧ w.O a
  | .st _ _ => False
  | x => Rep Γ w x v
inductive RepVs (Γ : Gam) (w : Wd) : List MV → List V → Prop
  | nil : RepVs Γ w [] []
  | cons {x v xs vs} : RepV Γ w x v → RepVs Γ w xs vs → RepVs Γ w (x :: xs) (v :: vs)
theorem RepV.rep {Γ : Gam} {w : Wd} {x : MV} {v : V} (r : RepV Γ w x v) (h : x.isF = true) : Rep Γ w x v := by
  cases x with
  | lst k xs => cases k <;> first | exact r | exact absurd h (by simp [MV.isF])
  | dct k t xs => cases k <;> first | exact r | exact absurd h (by simp [MV.isF])
  | st k xs => exact absurd h (by simp [MV.isF])
  | _ => exact r
theorem Rep.repV {Γ : Gam} {w : Wd} {x : MV} {v : V} (r : Rep Γ w x v) : RepV Γ w x v := by
  cases r <;> (first | exact .non | exact .bl _ | exact .int _ | exact .str _ | (rename_i h1 h2; exact .tup h1 h2) | (rename_i h1 h2 h3; exact .lst h1 h2 h3) | (rename_i h1 h2; exact .lro h1 h2) | (rename_i h1 h2 h3; exact .dK h1 h2 h3) | (rename_i h1 h2 h3; exact .dT h1 h2 h3) | (rename_i h1; exact .ref h1))

/-! ### the store -/
def RepO (Γ : Gam) (w : Wd) (o : MObj) (a : Addr) : Prop :=
  match o with
  | .lst xs => ∃ vs, w.H a = some (.lst vs) ∧ Reps Γ w xs vs
  | .dct t kvs => RepD Γ w t kvs a
  | .ins C fs => ∃ dx gs, w.H a = some (.ins (Γ.cl C) dx gs) ∧ RepF Γ w fs gs
structure WOK (Γ : Gam) (w : Wd) : Prop where
  hF : ∀ a, w.F a → w.H a ≠ none
  hO : ∀ a, w.O a → w.H a ≠ none
  obj : ∀ n o, w.M.ob n = some o → RepO Γ w o (w.μ n)
  inj : ∀ n m o p, w.M.ob n = some o → w.M.ob m = some p → w.μ n = w.μ m → n = m
  lt : ∀ n o, w.M.ob n = some o → n < w.M.nx
  FO : ∀ a, w.F a → ¬ w.O a
  Fal : ∀ a, w.F a → ¬ w.al a
  Oal : ∀ a, w.O a → ¬ w.al a
theorem RepO.some {Γ : Gam} {w : Wd} {o : MObj} {a : Addr} (r : RepO Γ w o a) : w.H a ≠ none := by
  cases o with
  | lst xs => obtain ⟨vs, h, _⟩ := r; rw [h]; exact fun z => nomatch z
  | dct t kvs => obtain ⟨_, h⟩ := RepD.some r; rw [h]; exact fun z => nomatch z
  | ins C fs => obtain ⟨_, _, h, _⟩ := r; rw [h]; exact fun z => nomatch z
theorem WOK.hal {Γ : Gam} {w : Wd} (k : WOK Γ w) {a : Addr} (h : w.al a) : w.H a ≠ none := by
  obtain ⟨n, o, e, rfl⟩ := h
  exact (k.obj n o e).some

/-- what a piece of code may have done: at `mine` alone, and at new addresses -/
structure Le (w w' : Wd) (mine : Addr → Prop) : Prop where
  keep : ∀ a o, w.H a = some o → ¬ mine a → w'.H a = some o
  F : ∀ a, w.F a → w'.F a
  Fm : ∀ a, w'.F a → w.F a ∨ w.H a = none ∨ mine a
  al : ∀ a, w'.al a → w.H a = none ∨ mine a
  μ : ∀ n, n < w.M.nx → w'.μ n = w.μ n
  nx : w.M.nx ≤ w'.M.nx
  tr : ∀ a, w'.H a = none → w.H a = none
/-- an expression -/
structure LeE (w w' : Wd) : Prop where
  le : Le w w' w.al
  O : w'.O = w.O
/-- statements -/
structure LeS (w w' : Wd) : Prop where
  le : Le w w' (fun a => w.al a ∨ w.O a)
  O : ∀ a, w'.O a → w.H a = none ∨ w.al a ∨ w.O a
theorem none_or {H : Hp} (a : Addr) : H a = none ∨ ∃ o, H a = some o := by
  cases e : H a with
  | none => exact .inl rfl
  | some o => exact .inr ⟨o, rfl⟩
theorem Le.trans {a b c : Wd} {m m' : Addr → Prop} (x : Le a b m) (y : Le b c m') (hm : ∀ p, m' p → a.H p = none ∨ m p) : Le a c m := by
  have hn : ∀ p, b.H p = none → a.H p = none ∨ m p := fun p h => by
    rcases none_or (H := a.H) p with e | ⟨o, e⟩
    · exact .inl e
    · by_cases q : m p
      · exact .inr q
      · rw [x.keep p o e q] at h; cases h
  refine ⟨fun p o h q => y.keep p o (x.keep p o h q) fun z => ?_, fun p h => y.F p (x.F p h), fun p h => ?_, fun p h => ?_, fun n h => (y.μ n (Nat.lt_of_lt_of_le h x.nx)).trans (x.μ n h), Nat.le_trans x.nx y.nx, fun p h => x.tr p (y.tr p h)⟩
  · rcases hm p z with e | e
    · rw [h] at e; cases e
    · exact q e
  · rcases y.Fm p h with h | h | h
    · exact x.Fm p h
    · exact .inr (hn p h)
    · exact .inr (hm p h)
  · rcases y.al p h with h | h
    · exact hn p h
    · exact hm p h
theorem LeE.refl (w : Wd) : LeE w w := ⟨⟨fun _ _ h _ => h, fun _ h => h, fun _ h => .inl h, fun _ h => .inr h, fun _ _ => rfl, Nat.le_refl _, fun _ h => h⟩, rfl⟩
theorem LeE.trans {a b c : Wd} (x : LeE a b) (y : LeE b c) : LeE a c := ⟨x.le.trans y.le fun p h => x.le.al p h, y.O.trans x.O⟩
theorem LeS.refl (w : Wd) : LeS w w := ⟨⟨fun _ _ h _ => h, fun _ h => h, fun _ h => .inl h, fun _ h => .inr (.inl h), fun _ _ => rfl, Nat.le_refl _, fun _ h => h⟩, fun _ h => .inr (.inr h)⟩
theorem LeE.s {a b : Wd} (x : LeE a b) : LeS a b :=
  ⟨⟨fun p o h q => x.le.keep p o h fun z => q (.inl z), x.le.F, fun p h => (x.le.Fm p h).elim .inl fun z => z.elim (fun z => .inr (.inl z)) fun z => .inr (.inr (.inl z)), fun p h => (x.le.al p h).elim .inl fun z => .inr (.inl z), x.le.μ, x.le.nx, x.le.tr⟩,
    fun p h => .inr (.inr (by rw [x.O] at h; exact h))⟩
theorem LeS.trans {a b c : Wd} (x : LeS a b) (y : LeS b c) : LeS a c := by
  have hm : ∀ p, b.al p ∨ b.O p → a.H p = none ∨ (a.al p ∨ a.O p) := fun p h => h.elim (x.le.al p) (x.O p)
  refine ⟨x.le.trans y.le hm, fun p h => ?_⟩
  rcases y.O p h with h | h
  · rcases none_or (H := a.H) p with e | ⟨o, e⟩
    · exact .inl e
    · by_cases q : a.al p ∨ a.O p
      · exact .inr q
      · rw [x.le.keep p o e q] at h; cases h
  · exact hm p h

section
variable {Γ : Gam} {w w' : Wd}
theorem LeE.stay (x : LeE w w') (k : WOK Γ w) : Stay w w' := by
  refine ⟨fun a h => ⟨x.le.F a h, ?_⟩, x.le.μ, x.le.nx⟩
  rcases none_or (H := w.H) a with e | ⟨o, e⟩
  · exact absurd e (k.hF a h)
  · rw [x.le.keep a o e (k.Fal a h), e]
theorem LeS.stay (x : LeS w w') (k : WOK Γ w) : Stay w w' := by
  refine ⟨fun a h => ⟨x.le.F a h, ?_⟩, x.le.μ, x.le.nx⟩
  rcases none_or (H := w.H) a with e | ⟨o, e⟩
  · exact absurd e (k.hF a h)
  · rw [x.le.keep a o e fun z => z.elim (k.Fal a h) (k.FO a h), e]
/-- a temporary stays through an expression -/
theorem LeE.tmp (x : LeE w w') (k : WOK Γ w) {a : Addr} {o : HO} (h : w.H a = some o) (n : ¬ w.al a) : w'.H a = some o := x.le.keep a o h n
theorem LeE.nF (x : LeE w w') {a : Addr} {o : HO} (h : w.H a = some o) (n : ¬ w.al a) (nf : ¬ w.F a) : ¬ w'.F a := fun z => by
  rcases x.le.Fm a z with z | z | z
  · exact nf z
  · rw [h] at z; cases z
  · exact n z
theorem LeE.nal (x : LeE w w') {a : Addr} {o : HO} (h : w.H a = some o) (n : ¬ w.al a) : ¬ w'.al a := fun z => by
  rcases x.le.al a z with z | z
  · rw [h] at z; cases z
  · exact n z
theorem RepV.le {x : MV} {v : V} (r : RepV Γ w x v) (l : LeE w w') (k : WOK Γ w) : RepV Γ w' x v := by
  have st := l.stay k
  unfold RepV at r ⊢
  split at r
  · obtain ⟨a, vs, rfl, h, r, n1, n2, n3⟩ := r
    exact ⟨a, vs, rfl, l.tmp k h n3, r.stay st, l.nF h n3 n1, by rw [l.O]; exact n2, l.nal h n3⟩
  · obtain ⟨a, vs, rfl, h, r, n⟩ := r
    exact ⟨a, vs, rfl, l.tmp k h (k.Oal a n), r.stay st, by rw [l.O]; exact n⟩
  · obtain ⟨a, rfl, h, n1, n2, n3⟩ := r
    obtain ⟨o, ho⟩ := h.some
    exact ⟨a, rfl, h.stay st fun o h => l.tmp k h n3, l.nF ho n3 n1, by rw [l.O]; exact n2, l.nal ho n3⟩
  · obtain ⟨a, rfl, h, n⟩ := r
    exact ⟨a, rfl, h.stay st fun o h => l.tmp k h (k.Oal a n), by rw [l.O]; exact n⟩
  · exact r
  · exact r.stay st
theorem RepVs.le : ∀ {xs : List MV} {vs : List V}, RepVs Γ w xs vs → LeE w w' → WOK Γ w → RepVs Γ w' xs vs
  | _, _, .nil, _, _ => .nil
  | _, _, .cons r t, l, k => .cons (r.le l k) (RepVs.le t l k)
end

/-! ### local names -/
def Own (ρ : Q.Env) (i : Nat) : Prop := (∃ xs, ρ[i]? = some (some (SV.ol xs))) ∨ ∃ t kvs, ρ[i]? = some (some (SV.od t kvs))
structure LOK (Γ : Gam) (w : Wd) (ρ : Q.Env) (σ : St) : Prop where
  len : ρ.length = σ.length
  v : ∀ (i : Nat) m, ρ[i]? = some (some (SV.v m)) → ∃ u, σ[i]? = some (some u) ∧ Rep Γ w m u
  ol : ∀ (i : Nat) xs, ρ[i]? = some (some (SV.ol xs)) → ∃ a vs, σ[i]? = some (some (V.ref a)) ∧ w.H a = some (.lst vs) ∧ Reps Γ w xs vs ∧ w.O a
  od : ∀ (i : Nat) t kvs, ρ[i]? = some (some (SV.od t kvs)) → ∃ a, σ[i]? = some (some (V.ref a)) ∧ RepD Γ w t kvs a ∧ w.O a
  os : ∀ (i : Nat) xs, ρ[i]? ≠ some (some (SV.os xs))
  un : ∀ (i j : Nat) a, i ≠ j → Own ρ i → Own ρ j → σ[i]? = some (some (V.ref a)) → σ[j]? = some (some (V.ref a)) → False
theorem LOK.le {Γ : Gam} {w w' : Wd} {ρ : Q.Env} {σ : St} (h : LOK Γ w ρ σ) (l : LeE w w') (k : WOK Γ w) : LOK Γ w' ρ σ := by
  have st := l.stay k
  refine ⟨h.len, fun i m e => ?_, fun i xs e => ?_, fun i t xs e => ?_, h.os, h.un⟩
  · obtain ⟨u, e1, r⟩ := h.v i m e
    exact ⟨u, e1, r.stay st⟩
  · obtain ⟨a, vs, e1, e2, r, o⟩ := h.ol i xs e
    exact ⟨a, vs, e1, l.tmp k e2 (k.Oal a o), r.stay st, by rw [l.O]; exact o⟩
  · obtain ⟨a, e1, e2, o⟩ := h.od i t xs e
    exact ⟨a, e1, e2.stay st fun q hq => l.tmp k hq (k.Oal a o), by rw [l.O]; exact o⟩

/-! ### readings -/
/-- a new value is new -/
def New (H : Hp) (x : MV) (v : V) : Prop :=
  match x with
  | .lst .nw _ => ∀ a, v = .ref a → H a = none
  | .dct .nw _ _ => ∀ a, v = .ref a → H a = none
  | _ => True
inductive News (H : Hp) : List MV → List V → Prop
  | nil : News H [] []
  | cons {x v xs vs} : New H x v → News H xs vs → News H (x :: xs) (v :: vs)
/-- an expression's -/
def RD (Γ : Gam) (ev : Q.Env → Store → Res MV) : TE := fun σ H Q => ∃ w ρ v M', w.H = H ∧ WOK Γ w ∧ LOK Γ w ρ σ ∧ ev ρ w.M = .ok v M' ∧
  ∀ w' u, LeE w w' → WOK Γ w' → w'.M = M' → RepV Γ w' v u → New w.H v u → Q u w'.H
/-- arguments that are kept -/
def RDk (Γ : Gam) (ev : Q.Env → Store → Res (List MV)) : TA := fun σ H Q => ∃ w ρ vs M', w.H = H ∧ WOK Γ w ∧ LOK Γ w ρ σ ∧ ev ρ w.M = .ok vs M' ∧
  ∀ w' us, LeE w w' → WOK Γ w' → w'.M = M' → Reps Γ w' vs us → Q us w'.H
def RDb (Γ : Gam) (ev : Q.Env → Store → Res Bool) : TT := fun σ H Q => ∃ w ρ v M', w.H = H ∧ WOK Γ w ∧ LOK Γ w ρ σ ∧ ev ρ w.M = .ok v M' ∧
  ∀ w', LeE w w' → WOK Γ w' → w'.M = M' → Q v w'.H
def RDs (Γ : Gam) (ev : Q.Env → Store → Res (List MV)) : TA := fun σ H Q => ∃ w ρ vs M', w.H = H ∧ WOK Γ w ∧ LOK Γ w ρ σ ∧ ev ρ w.M = .ok vs M' ∧
  ∀ w' us, LeE w w' → WOK Γ w' → w'.M = M' → RepVs Γ w' vs us → News w.H vs us → Q us w'.H
theorem _root_.L2.PE.imp {X : Cx} {e : Expr} {t t' : TE} (h : PE X e t) (i : ∀ σ H Q, t' σ H Q → t σ H Q) : PE X e t' := ⟨fun pins s σ H Q I q => h.run pins s σ H Q I (i σ H Q q)⟩
theorem _root_.L2.PT.imp {X : Cx} {e : Expr} {t t' : TT} (h : PT X e t) (i : ∀ σ H Q, t' σ H Q → t σ H Q) : PT X e t' := ⟨fun pins s σ H Q I q => h.run pins s σ H Q I (i σ H Q q)⟩
theorem _root_.L2.PW.imp {X : Cx} {e : Expr} {t t' : TT} (h : PW X e t) (i : ∀ σ H Q, t' σ H Q → t σ H Q) : PW X e t' := ⟨fun wh pins s σ H Q I q => h.run wh pins s σ H Q I (i σ H Q q)⟩
theorem _root_.L2.PA.imp {X : Cx} {e : List Expr} {t t' : TA} (h : PA X e t) (i : ∀ σ H Q, t' σ H Q → t σ H Q) : PA X e t' := ⟨fun pos pins s σ H Q I q => h.run pos pins s σ H Q I (i σ H Q q)⟩
theorem _root_.L2.PS.imp {X : Cx} {e : Stmt} {t t' : TS} (h : PS X e t) (i : ∀ D σ H, t' D σ H → t D σ H) : PS X e t' := ⟨fun pins s σ H D I q => h.run pins s σ H D I (i D σ H q)⟩
theorem _root_.L2.PSs.imp {X : Cx} {e : List Stmt} {t t' : TS} (h : PSs X e t) (i : ∀ D σ H, t' D σ H → t D σ H) : PSs X e t' := ⟨fun pins s σ H D I q => h.run pins s σ H D I (i D σ H q)⟩

theorem bind_ok {α β : Type} {r : Res α} {f : α → Store → Res β} {b : β} {M' : Store} (h : r.bind f = .ok b M') : ∃ a M1, r = .ok a M1 ∧ f a M1 = .ok b M' := by
  cases r with
  | ok a M1 => exact ⟨a, M1, rfl, h⟩
  | ex c fs M1 => cases h
  | stuck => cases h
theorem ofO_ok {α : Type} {o : Option α} {M M' : Store} {a : α} (h : ofO o M = .ok a M') : o = some a ∧ M' = M := by
  cases o with
  | none => cases h
  | some b => cases h; exact ⟨rfl, rfl⟩
end Q

/-! EvC: operators and displays. -/
namespace Q
open PySem L2

theorem SZ_eq : (SZ : Nat) = sizeLine := by rw [sizeLine_eq]

/-! ### growing -/
section
variable {Γ : Gam} {w : Wd}
theorem WOK.grow (k : WOK Γ w) {H' : Hp} {F' : Addr → Prop} (hs : ∀ a o, w.H a = some o → H' a = some o) (hF : ∀ a, w.F a → F' a) (hF' : ∀ a, F' a → w.F a ∨ (w.H a = none ∧ H' a ≠ none)) :
    WOK Γ { w with H := H', F := F' } ∧ LeE w { w with H := H', F := F' } := by
  have le : LeE w { w with H := H', F := F' } := ⟨⟨fun a o h _ => hs a o h, hF, fun a h => (hF' a h).elim .inl fun z => .inr (.inl z.1), fun a h => .inr h, fun _ _ => rfl, Nat.le_refl _, fun a h => by
    rcases none_or (H := w.H) a with e | ⟨o, e⟩
    · exact e
    · rw [show ({ w with H := H', F := F' } : Wd).H a = H' a from rfl, hs a o e] at h; cases h⟩, rfl⟩
  have st := le.stay k
  refine ⟨⟨fun a h => ?_, fun a h => ?_, fun n o e => ?_, k.inj, k.lt, fun a h o => ?_, fun a h o => ?_, k.Oal⟩, le⟩
  · rcases hF' a h with z | z
    · rcases none_or (H := w.H) a with e | ⟨o, e⟩
      · exact absurd e (k.hF a z)
      · rw [show ({ w with H := H', F := F' } : Wd).H a = H' a from rfl, hs a o e]; exact fun z => nomatch z
    · exact z.2
  · rcases none_or (H := w.H) a with e | ⟨o, e⟩
    · exact absurd e (k.hO a h)
    · rw [show ({ w with H := H', F := F' } : Wd).H a = H' a from rfl, hs a o e]; exact fun z => nomatch z
  · have r := k.obj n o e
    cases o with
    | lst xs => obtain ⟨vs, h, r⟩ := r; exact ⟨vs, hs _ _ h, r.stay st⟩
    | dct t kvs => exact RepD.stay r st fun o h => hs _ _ h
    | ins C fs => obtain ⟨dx, gs, h, r⟩ := r; exact ⟨dx, gs, hs _ _ h, r.stay st⟩
  · rcases hF' a h with z | z
    · exact k.FO a z o
    · exact k.hO a o z.1
  · rcases hF' a h with z | z
    · exact k.Fal a z o
    · exact k.hal (a := a) o z.1
theorem upd_keep {H : Hp} {p : Addr} {o : HO} (hp : H p = none) : ∀ a u, H a = some u → upd H p o a = some u := fun a u h => by
  rw [upd_ne (ne_of_none h hp)]; exact h
/-- a new tuple -/
theorem al_tup (k : WOK Γ w) {p : Addr} {xs : List MV} {vs : List V} (hp : w.H p = none) (r : Reps Γ w xs vs) :
    ∃ w' : Wd, w'.H = upd w.H p (.tup vs) ∧ w'.M = w.M ∧ WOK Γ w' ∧ LeE w w' ∧ Rep Γ w' (.tup xs) (.ref p) := by
  have g := k.grow (H' := upd w.H p (.tup vs)) (F' := fun a => w.F a ∨ a = p) (upd_keep hp) (fun a h => .inl h) (fun a h => h.elim .inl fun z => .inr (by subst z; exact ⟨hp, by rw [upd_same]; exact fun z => nomatch z⟩))
  exact ⟨{ w with H := upd w.H p (.tup vs), F := fun a => w.F a ∨ a = p }, rfl, rfl, g.1, g.2, Rep.tup (.inl ⟨.inr rfl, upd_same⟩) (r.stay (g.2.stay k))⟩
/-- a new list -/
theorem al_lst (k : WOK Γ w) {p : Addr} {xs : List MV} {vs : List V} (hp : w.H p = none) (r : Reps Γ w xs vs) :
    ∃ w' : Wd, w'.H = upd w.H p (.lst vs) ∧ w'.M = w.M ∧ WOK Γ w' ∧ LeE w w' ∧ RepV Γ w' (.lst .nw xs) (.ref p) ∧ w'.O = w.O := by
  have g := k.grow (H' := upd w.H p (.lst vs)) (F' := w.F) (upd_keep hp) (fun a h => h) (fun a h => .inl h)
  exact ⟨{ w with H := upd w.H p (.lst vs) }, rfl, rfl, g.1, g.2, ⟨p, vs, rfl, upd_same, r.stay (g.2.stay k), fun z => k.hF p z hp, fun z => k.hO p z hp, fun z => k.hal (a := p) z hp⟩, rfl⟩
/-- a new dict -/
theorem al_dctK (k : WOK Γ w) {p : Addr} {kvs : List (KY × MV)} {ps : List (Key × V)} (hp : w.H p = none) (r : RepK Γ w kvs ps) :
    ∃ w' : Wd, w'.H = upd w.H p (.dK ps) ∧ w'.M = w.M ∧ WOK Γ w' ∧ LeE w w' ∧ RepV Γ w' (.dct .nw false kvs) (.ref p) := by
  have g := k.grow (H' := upd w.H p (.dK ps)) (F' := w.F) (upd_keep hp) (fun a h => h) (fun a h => .inl h)
  exact ⟨{ w with H := upd w.H p (.dK ps) }, rfl, rfl, g.1, g.2, p, rfl, (by unfold RepD; rw [if_neg Bool.false_ne_true]; exact ⟨ps, upd_same, r.stay (g.2.stay k)⟩), fun z => k.hF p z hp, fun z => k.hO p z hp, fun z => k.hal (a := p) z hp⟩
theorem al_dctT (k : WOK Γ w) {p : Addr} {kvs : List (KY × MV)} {ps : List (List Key × V)} (hp : w.H p = none) (r : RepT Γ w kvs ps) :
    ∃ w' : Wd, w'.H = upd w.H p (.dT ps) ∧ w'.M = w.M ∧ WOK Γ w' ∧ LeE w w' ∧ RepV Γ w' (.dct .nw true kvs) (.ref p) := by
  have g := k.grow (H' := upd w.H p (.dT ps)) (F' := w.F) (upd_keep hp) (fun a h => h) (fun a h => .inl h)
  exact ⟨{ w with H := upd w.H p (.dT ps) }, rfl, rfl, g.1, g.2, p, rfl, (by unfold RepD; rw [if_pos rfl]; exact ⟨ps, upd_same, r.stay (g.2.stay k)⟩), fun z => k.hF p z hp, fun z => k.hO p z hp, fun z => k.hal (a := p) z hp⟩
/-- an address is frozen -/
theorem fz_at (k : WOK Γ w) {w0 : Wd} (l : LeE w0 w) {a : Addr} (h : w.H a ≠ none) (h0 : w0.H a = none) (no : ¬ w.O a) (na : ¬ w.al a) :
    WOK Γ { w with F := fun b => w.F b ∨ b = a } ∧ LeE w0 { w with F := fun b => w.F b ∨ b = a } ∧ Stay w { w with F := fun b => w.F b ∨ b = a } := by
  have st : Stay w { w with F := fun b => w.F b ∨ b = a } := ⟨fun b z => ⟨.inl z, rfl⟩, fun _ _ => rfl, Nat.le_refl _⟩
  refine ⟨⟨fun b z => z.elim (k.hF b) fun e => by subst e; exact h, k.hO, fun n o e => ?_, k.inj, k.lt, fun b z o => z.elim (fun z => k.FO b z o) fun e => by subst e; exact no o, fun b z o => z.elim (fun z => k.Fal b z o) fun e => by subst e; exact na o, k.Oal⟩,
    ⟨⟨l.le.keep, fun b z => .inl (l.le.F b z), fun b z => z.elim (l.le.Fm b) fun e => .inr (.inl (by subst e; exact h0)), l.le.al, l.le.μ, l.le.nx, l.le.tr⟩, l.O⟩, st⟩
  have r := k.obj n o e
  cases o with
  | lst xs => obtain ⟨vs, h, r⟩ := r; exact ⟨vs, h, r.stay st⟩
  | dct t kvs => exact RepD.stay r st fun o h => h
  | ins C fs => obtain ⟨dx, gs, h, r⟩ := r; exact ⟨dx, gs, h, r.stay st⟩
/-- a value is kept: what is new is frozen -/
theorem RepV.keep (k : WOK Γ w) {w0 : Wd} (l : LeE w0 w) {x y : MV} {v : V} (r : RepV Γ w x v) (n : New w0.H x v) (h : x.frz = some y) :
    ∃ w' : Wd, w'.H = w.H ∧ w'.M = w.M ∧ w'.O = w.O ∧ WOK Γ w' ∧ LeE w0 w' ∧ Stay w w' ∧ Rep Γ w' y v := by
  cases x with
  | lst kd xs =>
    cases kd with
    | fz => cases h; exact ⟨w, rfl, rfl, rfl, k, l, Stay.refl w, r⟩
    | ro => cases h; exact ⟨w, rfl, rfl, rfl, k, l, Stay.refl w, r⟩
    | bw => cases h
    | nw =>
      cases h
      obtain ⟨a, vs, rfl, e, r, n1, n2, n3⟩ := r
      obtain ⟨g1, g2, g3⟩ := fz_at k l (by rw [e]; exact fun z => nomatch z) (n a rfl) n2 n3
      exact ⟨{ w with F := fun b => w.F b ∨ b = a }, rfl, rfl, rfl, g1, g2, g3, .lst (.inr rfl) e (r.stay g3)⟩
  | dct kd t xs =>
    cases kd with
    | fz => cases h; exact ⟨w, rfl, rfl, rfl, k, l, Stay.refl w, r⟩
    | ro => cases h; exact ⟨w, rfl, rfl, rfl, k, l, Stay.refl w, r⟩
    | bw => cases h
    | nw =>
      cases h
      obtain ⟨a, rfl, e, n1, n2, n3⟩ := r
      obtain ⟨o, ho⟩ := e.some
      obtain ⟨g1, g2, g3⟩ := fz_at k l (by rw [ho]; exact fun z => nomatch z) (n a rfl) n2 n3
      refine ⟨{ w with F := fun b => w.F b ∨ b = a }, rfl, rfl, rfl, g1, g2, g3, ?_⟩
      have e' : RepD Γ { w with F := fun b => w.F b ∨ b = a } t xs a := e.stay g3 fun o h => h
      unfold RepD at e'
      cases t with
      | true => rw [if_pos rfl] at e'; obtain ⟨ps, e1, r⟩ := e'; exact .dT (.inr rfl) e1 r
      | false => rw [if_neg Bool.false_ne_true] at e'; obtain ⟨ps, e1, r⟩ := e'; exact .dK (.inr rfl) e1 r
  | st kd xs => exact r.elim
  | _ => cases h; exact ⟨w, rfl, rfl, rfl, k, l, Stay.refl w, r⟩
theorem New.of_rep {H : Hp} {x : MV} {v : V} (r : Rep Γ w x v) : New H x v := by
  cases r <;> exact trivial

/-! ### what is read -/
def ReadV (Γ : Gam) (w : Wd) (x : MV) (v : V) : Prop :=
  match x with
  | .lst k xs => ∃ a vs, v = .ref a ∧ (k ≠ .ro → w.H a = some (.lst vs)) ∧ SqL Γ.K w.H a vs ∧ Reps Γ w xs vs
  | .dct _ t kvs => ∃ a, v = .ref a ∧ RepD Γ w t kvs a
  | .st _ _ => False
  | x => Rep Γ w x v
theorem RepV.read (k : WOK Γ w) {x : MV} {v : V} (r : RepV Γ w x v) : ReadV Γ w (x.dr w.M) v := by
  cases x with
  | lst kd xs =>
    cases kd with
    | fz => exact Rep.seqL r
    | ro => exact Rep.seqL r
    | nw => obtain ⟨a, vs, e, h, r, _⟩ := r; exact ⟨a, vs, e, fun _ => h, SqL.of h, r⟩
    | bw => obtain ⟨a, vs, e, h, r, _⟩ := r; exact ⟨a, vs, e, fun _ => h, SqL.of h, r⟩
  | dct kd t xs =>
    cases kd with
    | fz =>
      cases (show Rep Γ w _ _ from r) with
      | dK h1 h2 r2 => exact ⟨_, rfl, by unfold RepD; rw [if_neg Bool.false_ne_true]; exact ⟨_, h2, r2⟩⟩
      | dT h1 h2 r2 => exact ⟨_, rfl, by unfold RepD; rw [if_pos rfl]; exact ⟨_, h2, r2⟩⟩
    | ro => cases (show Rep Γ w _ _ from r)
    | nw => obtain ⟨a, e, h, _⟩ := r; exact ⟨a, e, h⟩
    | bw => obtain ⟨a, e, h, _⟩ := r; exact ⟨a, e, h⟩
  | st kd xs => exact r.elim
  | tup xs => exact r
  | ref n =>
    show ReadV Γ w (match w.M.ob n with | some (.lst xs) => .lst .bw xs | some (.dct t kvs) => .dct .bw t kvs | _ => .ref n) v
    have r' : Rep Γ w (.ref n) v := r
    have ev : v = .ref (w.μ n) := by cases r'; rfl
    split
    · rename_i xs e
      obtain ⟨vs, h, r⟩ := k.obj n _ e
      exact ⟨_, vs, ev, fun _ => h, SqL.of h, r⟩
    · rename_i t kvs e
      exact ⟨_, ev, k.obj n _ e⟩
    · exact r'
  | non => exact r
  | bl b => exact r
  | int i => exact r
  | str s => exact r
theorem ReadV.int {i : Int} {v : V} (r : ReadV Γ w (.int i) v) : v = .int i := by
  cases (show Rep Γ w _ _ from r); rfl
theorem ReadV.bl {b : Bool} {v : V} (r : ReadV Γ w (.bl b) v) : v = .bl b := by
  cases (show Rep Γ w _ _ from r); rfl
theorem ReadV.str {s : Str} {v : V} (r : ReadV Γ w (.str s) v) : v = .str s := by
  cases (show Rep Γ w _ _ from r); rfl
theorem ReadV.non {v : V} (r : ReadV Γ w .non v) : v = .non := by
  cases (show Rep Γ w _ _ from r); rfl
theorem seqOf_read {x : MV} {xs : List MV} {v : V} (r : ReadV Γ w x v) (h : seqOf x = some xs) : ∃ a vs, v = .ref a ∧ (SqL Γ.K w.H a vs ∨ SqT Γ.K w.H a vs) ∧ Reps Γ w xs vs := by
  cases x with
  | lst kd ys => cases h; obtain ⟨a, vs, e, _, h, r⟩ := r; exact ⟨a, vs, e, .inl h, r⟩
  | tup ys => cases h; obtain ⟨a, vs, e, h, r⟩ := Rep.seqT r; exact ⟨a, vs, e, .inr h, r⟩
  | _ => cases h
theorem reps_ints : ∀ {xs : List MV} {vs : List V} {is : List Int}, Reps Γ w xs vs → intsOf xs = some is → vs = is.map V.int
  | [], _, is, .nil, h => by cases h; rfl
  | .int i :: xs, _, is, .cons r t, h => by
    simp only [intsOf] at h
    split at h
    · rename_i js e
      cases h
      rw [reps_ints t e]
      cases r; rfl
    · cases h
  | .non :: _, _, _, _, h => by cases h
  | .bl _ :: _, _, _, _, h => by cases h
  | .str _ :: _, _, _, _, h => by cases h
  | .tup _ :: _, _, _, _, h => by cases h
  | .lst _ _ :: _, _, _, _, h => by cases h
  | .dct _ _ _ :: _, _, _, _, h => by cases h
  | .st _ _ :: _, _, _, _, h => by cases h
  | .ref _ :: _, _, _, _, h => by cases h
theorem reps_bools : ∀ {xs : List MV} {vs : List V} {is : List Bool}, Reps Γ w xs vs → boolsOf xs = some is → vs = is.map V.bl
  | [], _, is, .nil, h => by cases h; rfl
  | .bl i :: xs, _, is, .cons r t, h => by
    simp only [boolsOf] at h
    split at h
    · rename_i js e
      cases h
      rw [reps_bools t e]
      cases r; rfl
    · cases h
  | .non :: _, _, _, _, h => by cases h
  | .int _ :: _, _, _, _, h => by cases h
  | .str _ :: _, _, _, _, h => by cases h
  | .tup _ :: _, _, _, _, h => by cases h
  | .lst _ _ :: _, _, _, _, h => by cases h
  | .dct _ _ _ :: _, _, _, _, h => by cases h
  | .st _ _ :: _, _, _, _, h => by cases h
  | .ref _ :: _, _, _, _, h => by cases h
theorem ints_reps : ∀ is : List Int, Reps Γ w (is.map MV.int) (is.map V.int)
  | [] => .nil
  | i :: is => .cons (.int i) (ints_reps is)

/-! ### operations on two values -/
/-- what an operation asks -/
def OP2 (Γ : Gam) (g : MV → MV → Store → Option MV) : R2 := fun u v H Q => ∃ w x y z, w.H = H ∧ WOK Γ w ∧ RepV Γ w x u ∧ RepV Γ w y v ∧ g (x.dr w.M) (y.dr w.M) w.M = some z ∧
  ∀ w' t, LeE w w' → WOK Γ w' → w'.M = w.M → RepV Γ w' z t → New w.H z t → Q t w'.H
theorem OP2.rd {X : Cx} {f : Value → Value → Sem Value} {g : MV → MV → Store → Option MV} (h : ∀ (w : Wd) (x y z : MV) (u v : V) (Q : VK), WOK Γ w → ReadV Γ w x u → ReadV Γ w y v → g x y w.M = some z →
    (∀ w' t, LeE w w' → WOK Γ w' → w'.M = w.M → RepV Γ w' z t → New w.H z t → Q t w'.H) → ∃ r : R2, OpR X f r ∧ r u v w.H Q) : OpR X f (OP2 Γ g) := by
  intro pins s σ H a b va vb Q I ra rb ⟨w, x, y, z, hH, k, rx, ry, e, q⟩
  subst hH
  obtain ⟨r, ho, hr⟩ := h w _ _ z a b Q k (rx.read k) (ry.read k) e q
  exact ho pins s σ _ a b va vb Q I ra rb hr
/-- a result that needs no room -/
theorem done1 {z : MV} {t : V} {Q : VK} (k : WOK Γ w) (r : Rep Γ w z t) (q : ∀ w' t, LeE w w' → WOK Γ w' → w'.M = w.M → RepV Γ w' z t → New w.H z t → Q t w'.H) : Q t w.H :=
  q w t (LeE.refl w) k rfl r.repV (.of_rep r)
theorem doneT {xs : List MV} {vs : List V} {p : Addr} {Q : VK} (k : WOK Γ w) (hp : w.H p = none) (r : Reps Γ w xs vs) (q : ∀ w' t, LeE w w' → WOK Γ w' → w'.M = w.M → RepV Γ w' (.tup xs) t → New w.H (.tup xs) t → Q t w'.H) : Q (.ref p) (upd w.H p (.tup vs)) := by
  obtain ⟨w', e1, e2, k', l, r'⟩ := al_tup k hp r
  rw [← e1]
  exact q w' _ l k' e2 r'.repV trivial
theorem doneL {xs : List MV} {vs : List V} {p : Addr} {Q : VK} (k : WOK Γ w) (hp : w.H p = none) (r : Reps Γ w xs vs) (q : ∀ w' t, LeE w w' → WOK Γ w' → w'.M = w.M → RepV Γ w' (.lst .nw xs) t → New w.H (.lst .nw xs) t → Q t w'.H) : Q (.ref p) (upd w.H p (.lst vs)) := by
  obtain ⟨w', e1, e2, k', l, r', _⟩ := al_lst k hp r
  rw [← e1]
  exact q w' _ l k' e2 r' (fun a e => by cases e; exact hp)

theorem sm_ok {i : Int} (h : sm i = true) : -(2 ^ 64) < i ∧ i < 2 ^ 64 := by
  unfold sm at h
  simp only [Bool.and_eq_true, decide_eq_true_eq] at h
  omega
end
end Q

/-! EvD: the operators of the evaluator are those of the model. -/
namespace Q
open PySem L2
section
variable {Γ : Gam} {w : Wd} {X : Cx}
theorem ite_some {α : Type} {c : Prop} [Decidable c] {x y : α} (h : (if c then some x else none) = some y) : c ∧ x = y := by
  by_cases hc : c
  · rw [if_pos hc] at h; exact ⟨hc, Option.some.inj h⟩
  · rw [if_neg hc] at h; cases h

/-! ### t * 1 -/
theorem tuple_mul1W (l : Addr) (items : Array Value) (n : Nat) (dd : Option Addr) (sl : Array (Option Value)) (u : Tok) :
    Meets (Builtin.«tuple.__mul__» ⟨[.ref l, .int 1 u], []⟩) (fun _ R s => s.heap.get? l = some { cls := .type "tuple", dict := dd, data := .seq items n, slots := sl } ∧
      R (.ok (.ret (Value.ref l))) s) :=
  .of_wp fun prog w A R s h => by
    obtain ⟨hp, g, d, tk, os⟩ := s
    obtain ⟨hl, h⟩ := h
    have f1 := AutoSeq1.idx_int
    wp_walk using wpAny_loadPart' hl
    repeat (first
      | (refine wpAny_ite_false (decide_eq_false (by decide)) ?_; wp_walk using wpAny_loadPart' hl)
      | (refine wpAny_ite_true (by simp) ?_; wp_walk using wpAny_loadPart' hl))
    exact ⟨_, rfl, h⟩
theorem op_rep1 : OpR X (binaryOp .Mult) (fun x y H Q => ∃ l xs, x = .ref l ∧ y = .int 1 ∧ SqT X.K H l xs ∧ Q (.ref l) H) := by
  intro pins s σ H x y v u Q I rx ry h
  obtain ⟨l, xs, rfl, rfl, hT, q⟩ := h
  cases rx
  obtain ⟨t, rfl⟩ := ry
  obtain ⟨its, r, ⟨⟨cls, dd, data, sl⟩, ho, hc, n, hd⟩, hs⟩ := I.tuple hT
  simp only at hc hd
  subst hc hd
  exact wpAny_binaryOp_repeat_ref (T := "tuple") (U := "int") (by decide) ⟨_, ho, rfl⟩ (fun s' => typeIs_int s' 1 t) noFill_tuple_mul F.fills_int_mul F.slot_int_rmul repeat_tuple F.slot_int_index.lookup
    (call_meets F.slot_int_rmul (typeIs_int s 1 t) F.entry_int_rmul (F.args_int_rmul_2 _ _) (int_rmul_tuple 1 t l its.toArray n dd sl)
      ⟨ho, rfl, ⟨_, ho, rfl⟩, call_meets F.slot_tuple_mul ⟨_, ho, rfl⟩ F.entry_tuple_mul (F.args_tuple_mul_2 _ _) (tuple_mul1W l its.toArray n dd sl t) ⟨ho, ⟨.ref l, H, I, rfl, q⟩⟩⟩)

theorem ReadV.tup {xs : List MV} {v : V} (r : ReadV Γ w (.tup xs) v) : Rep Γ w (.tup xs) v ∧ ∃ a vs, v = .ref a ∧ SqT Γ.K w.H a vs ∧ Reps Γ w xs vs := ⟨r, Rep.seqT r⟩
theorem o_add (hK : X.K = Γ.K) : OpR X (binaryOp .Add) (OP2 Γ fun a b _ => binM .add a b) := OP2.rd fun w x y z u v Q k rx ry e q => by
  cases x with
  | int i =>
    cases y with
    | int j => cases e; rw [rx.int, ry.int]; exact ⟨_, op_add, i, j, rfl, rfl, done1 k (.int _) q⟩
    | _ => cases e
  | str s =>
    cases y with
    | str s' =>
      obtain ⟨hz, rfl⟩ := ite_some e
      rw [rx.str, ry.str]; exact ⟨_, op_add_str, s, s', rfl, rfl, by rw [← SZ_eq]; exact hz, done1 k (.str _) q⟩
    | _ => cases e
  | tup xs =>
    cases y with
    | tup ys =>
      obtain ⟨hz, rfl⟩ := ite_some e
      obtain ⟨rx, a, vs, rfl, h1, r1⟩ := rx.tup
      obtain ⟨ry, b, us, rfl, h2, r2⟩ := ry.tup
      rw [← hK] at h1 h2
      refine ⟨_, op_catA, a, b, vs, us, rfl, rfl, h1, h2, by rw [← r1.length, ← r2.length, ← SZ_eq]; exact hz, fun h => ?_, fun h h' => ?_, fun h h' p hp => doneT k hp (r1.append r2) q⟩
      · have e1 : xs = [] := r1.nil_iff.mpr h
        subst e1
        exact done1 k ry q
      · have e1 : ys = [] := r2.nil_iff.mpr h'
        subst e1
        rw [List.append_nil] at q
        exact done1 k rx q
    | _ => cases e
  | lst kd xs =>
    cases y with
    | lst kd' ys =>
      obtain ⟨⟨hz, n1, n2⟩, rfl⟩ := ite_some e
      obtain ⟨a, vs, rfl, h1, _, r1⟩ := rx
      obtain ⟨b, us, rfl, h2, _, r2⟩ := ry
      exact ⟨_, op_cat, a, b, vs, us, rfl, rfl, h1 n1, h2 n2, by rw [← r1.length, ← r2.length, ← SZ_eq]; exact hz, fun p hp => doneL k hp (r1.append r2) q⟩
    | _ => cases e
  | _ => cases y <;> cases e
theorem o_sub : OpR X (binaryOp .Sub) (OP2 Γ fun a b _ => binM .sub a b) := OP2.rd fun w x y z u v Q k rx ry e q => by
  cases x with
  | int i =>
    cases y with
    | int j => cases e; rw [rx.int, ry.int]; exact ⟨_, op_sub, i, j, rfl, rfl, done1 k (.int _) q⟩
    | _ => cases e
  | _ => cases y <;> cases e
theorem o_mul (hK : X.K = Γ.K) : OpR X (binaryOp .Mult) (OP2 Γ fun a b _ => binM .mul a b) := OP2.rd fun w x y z u v Q k rx ry e q => by
  cases x with
  | int i =>
    cases y with
    | int j =>
      obtain ⟨hz, rfl⟩ := ite_some e
      rw [rx.int, ry.int]
      exact ⟨_, op_mul, i, j, rfl, rfl, by
        rw [Bool.or_eq_true] at hz
        exact hz.imp sm_ok sm_ok, done1 k (.int _) q⟩
    | _ => cases e
  | tup xs =>
    cases y with
    | int j =>
      obtain ⟨⟨h0, h1, h2, h3⟩, rfl⟩ := ite_some e
      obtain ⟨rx, a, vs, rfl, hs, r1⟩ := rx.tup
      rw [← hK] at hs
      rw [ry.int]
      by_cases hj : j = 1
      · subst hj
        refine ⟨_, op_rep1, a, vs, rfl, rfl, hs, ?_⟩
        have e1 : (List.replicate (1 : Int).toNat xs).flatten = xs := by simp [List.replicate]
        rw [e1] at q
        exact done1 k rx q
      · exact ⟨_, op_repT, a, j, vs, rfl, rfl, hs, fun z => h0 (r1.nil_iff.mpr z), by omega, h2, by rw [← r1.length]; exact h3, fun p hp => doneT k hp (r1.rep j.toNat) q⟩
    | _ => cases e
  | lst kd xs =>
    cases y with
    | int j =>
      obtain ⟨⟨h0, h1, h2, h3⟩, rfl⟩ := ite_some e
      obtain ⟨a, vs, rfl, hs, _, r1⟩ := rx
      rw [ry.int]
      exact ⟨_, op_rep, a, j, vs, rfl, rfl, hs h0, by omega, by omega, by rw [← r1.length, ← SZ_eq]; exact h3, fun p hp => doneL k hp (r1.rep j.toNat) q⟩
    | _ => cases e
  | _ => cases y <;> cases e
theorem log2_small {j : Int} (h0 : 0 < j) (h : j < 18446744073709551616) : j.natAbs.log2 < 9000 :=
  PySem.Flt.log2_lt_of (by decide) (Nat.lt_of_lt_of_le (m := 2 ^ 64) (by omega) (Nat.pow_le_pow_right (by decide) (by decide)))
theorem o_fdiv : OpR X (binaryOp .FloorDiv) (OP2 Γ fun a b _ => binM .fdiv a b) := OP2.rd fun w x y z u v Q k rx ry e q => by
  cases x with
  | int i =>
    cases y with
    | int j =>
      obtain ⟨⟨h1, h2⟩, rfl⟩ := ite_some e
      rw [rx.int, ry.int]; exact ⟨_, op_fdivW, i, j, rfl, rfl, ⟨h1, log2_small h1 h2⟩, done1 k (.int _) q⟩
    | _ => cases e
  | _ => cases y <;> cases e
theorem o_mod : OpR X (binaryOp .Mod) (OP2 Γ fun a b _ => binM .mod a b) := OP2.rd fun w x y z u v Q k rx ry e q => by
  cases x with
  | int i =>
    cases y with
    | int j =>
      obtain ⟨h1, rfl⟩ := ite_some e
      rw [rx.int, ry.int]; exact ⟨_, op_mod, i, j, rfl, rfl, h1, done1 k (.int _) q⟩
    | _ => cases e
  | _ => cases y <;> cases e
theorem o_pow : OpR X (binaryOp .Pow) (OP2 Γ fun a b _ => binM .pow a b) := OP2.rd fun w x y z u v Q k rx ry e q => by
  cases x with
  | int i =>
    cases y with
    | int j =>
      obtain ⟨⟨h1, h2, h3⟩, rfl⟩ := ite_some e
      have := sm_ok h3
      rw [rx.int, ry.int]; exact ⟨_, op_pow, i, j, rfl, rfl, ⟨h1, by omega, by omega⟩, done1 k (.int _) q⟩
    | _ => cases e
  | _ => cases y <;> cases e
def opOf : BOp → Operator
  | .add => .Add | .sub => .Sub | .mul => .Mult | .fdiv => .FloorDiv | .mod => .Mod | .pow => .Pow
theorem o_bin (hK : X.K = Γ.K) (op : BOp) : OpR X (binaryOp (opOf op)) (OP2 Γ fun a b _ => binM op a b) := by
  cases op with
  | add => exact o_add hK
  | sub => exact o_sub
  | mul => exact o_mul hK
  | fdiv => exact o_fdiv
  | mod => exact o_mod
  | pow => exact o_pow

/-! ### plain data -/
mutual
theorem MV.shp_py : ∀ (n : Nat) (x : MV), x.shp n = true → x.py.canLay0 = true ∧ x.py.depth ≤ n
  | n, .non, _ => by simp [MV.py, PyData.canLay0, PyData.depth]
  | n, .bl b, _ => by simp [MV.py, PyData.canLay0, PyData.depth]
  | n, .int i, _ => by simp [MV.py, PyData.canLay0, PyData.depth]
  | n, .str s, h => by
    have h' : s.cps.all (· < 0x110000) = true := by cases n <;> exact h
    refine ⟨?_, by simp [MV.py, PyData.depth]⟩
    simp only [MV.py, PyData.canLay0]
    exact h'
  | n + 1, .tup xs, h => by
    have h' : xs.all (MV.shp n) = true := h
    obtain ⟨h1, h2⟩ := MV.shp_pyL n xs h'
    exact ⟨by simpa only [MV.py, PyData.canLay0] using h1, by simp only [MV.py, PyData.depth]; omega⟩
  | n + 1, .lst k xs, h => by
    have h' : xs.all (MV.shp n) = true := h
    obtain ⟨h1, h2⟩ := MV.shp_pyL n xs h'
    exact ⟨by simpa only [MV.py, PyData.canLay0] using h1, by simp only [MV.py, PyData.depth]; omega⟩
  | 0, .tup xs, h => by cases h
  | 0, .lst k xs, h => by cases h
  | 0, .dct k t xs, h => by cases h
  | n + 1, .dct k t xs, h => by cases h
  | 0, .st k xs, h => by cases h
  | n + 1, .st k xs, h => by cases h
  | 0, .ref k, h => by cases h
  | n + 1, .ref k, h => by cases h
theorem MV.shp_pyL : ∀ (n : Nat) (xs : List MV), xs.all (MV.shp n) = true → PyData.canLayAll0 (MV.pyL xs) = true ∧ PyData.depthAll (MV.pyL xs) ≤ n
  | n, [], _ => by simp [MV.pyL, PyData.canLayAll0, PyData.depthAll]
  | n, x :: xs, h => by
    rw [List.all_cons, Bool.and_eq_true] at h
    obtain ⟨h1, h2⟩ := MV.shp_py n x h.1
    obtain ⟨h3, h4⟩ := MV.shp_pyL n xs h.2
    refine ⟨by simp only [MV.pyL, PyData.canLayAll0, h1, h3, Bool.and_self], ?_⟩
    simp only [MV.pyL, PyData.depthAll]
    omega
end
theorem MV.shp_shaped {x : MV} (h : x.shp 60 = true) : SeqAt.shaped x.py = true := by
  obtain ⟨h1, h2⟩ := MV.shp_py 60 x h
  unfold SeqAt.shaped
  rw [h1, Bool.true_and]
  exact decide_eq_true (by omega)
mutual
theorem Rep.dp : ∀ (n : Nat) (x : MV) (v : V), x.shp n = true → Rep Γ w x v → Dp Γ.K w.H v x.py
  | n, .non, _, _, r => by cases r; exact .non
  | n, .bl b, _, _, r => by cases r; exact .bl b
  | n, .int i, _, _, r => by cases r; exact .int i
  | n, .str s, _, _, r => by cases r; exact .str s
  | n + 1, .tup xs, _, h, r => by
    obtain ⟨a, vs, rfl, hs, r⟩ := Rep.seqT r
    exact .tup hs (Reps.dp n xs vs h r)
  | n + 1, .lst k xs, _, h, r => by
    obtain ⟨a, vs, rfl, _, hs, r⟩ := Rep.seqL r
    exact .lst hs (Reps.dp n xs vs h r)
  | 0, .tup xs, _, h, _ => by cases h
  | 0, .lst k xs, _, h, _ => by cases h
  | 0, .dct k t xs, _, h, _ => by cases h
  | n + 1, .dct k t xs, _, h, _ => by cases h
  | 0, .st k xs, _, h, _ => by cases h
  | n + 1, .st k xs, _, h, _ => by cases h
  | 0, .ref k, _, h, _ => by cases h
  | n + 1, .ref k, _, h, _ => by cases h
theorem Reps.dp : ∀ (n : Nat) (xs : List MV) (vs : List V), xs.all (MV.shp n) = true → Reps Γ w xs vs → DpAll Γ.K w.H vs (MV.pyL xs)
  | n, [], _, _, r => by cases r; exact .nil
  | n, x :: xs, _, h, r => by
    rw [List.all_cons, Bool.and_eq_true] at h
    cases r with
    | cons r1 r2 => exact .cons (Rep.dp n x _ h.1 r1) (Reps.dp n xs _ h.2 r2)
end
theorem ReadV.dp {n : Nat} {x : MV} {v : V} (h : x.shp n = true) (r : ReadV Γ w x v) : Dp Γ.K w.H v x.py := by
  cases x with
  | lst k xs =>
    obtain ⟨a, vs, rfl, _, hs, r⟩ := r
    cases n with
    | zero => cases h
    | succ n => exact .lst hs (Reps.dp n xs vs h r)
  | dct k t xs => cases n <;> cases h
  | st k xs => exact r.elim
  | _ => exact Rep.dp n _ v h r
theorem pyL_map : ∀ xs : List MV, MV.pyL xs = xs.map MV.py
  | [] => rfl
  | x :: xs => by rw [MV.pyL, List.map_cons, pyL_map xs]
theorem room60 {A : Around} {xs : List PyData} {d : PyData} (h : d.depth ≤ 60) (hu : A.units + 65 < cLine) : A.units + 1 + min (PyData.depthAll xs) d.depth < cLine := by
  have h2 : min (PyData.depthAll xs) d.depth ≤ d.depth := Nat.min_le_right _ _
  omega
def ngb (neg b : Bool) : Bool := if neg then !b else b
/-- x in a tuple or list of data -/
theorem op_inS (hu : X.A.units + 65 < cLine) (op : CmpOp) (neg : Bool) (ho : (op = .In ∧ neg = false) ∨ (op = .NotIn ∧ neg = true)) :
    OpR X (compareOp op) (fun x y H Q => ∃ d ds, Dp X.K H x d ∧ (Dp X.K H y (.tuple ds) ∨ Dp X.K H y (.list ds)) ∧ d.canLay0 = true ∧ d.depth ≤ 60 ∧ PyData.canLayAll0 ds = true ∧ Q (.bl (ngb neg (ds.any fun z => PyData.eqv z d))) H) := by
  intro pins s σ H x y v u Q I rx ry h
  obtain ⟨d, ds, hd, he, sd, dd, se, q⟩ := h
  obtain ⟨as, r1⟩ := Dp.reads I d x v hd rx
  rcases he with he | he
  · obtain ⟨bs, r2⟩ := Dp.reads I (.tuple ds) y u he ry
    rcases ho with ⟨rfl, rfl⟩ | ⟨rfl, rfl⟩
    · exact SeqAt.in_tuple_reads r2 r1 se sd (room60 dd hu) ⟨.bl _, H, I, rfl, q⟩
    · exact SeqAt.notIn_tuple_reads r2 r1 se sd (room60 dd hu) ⟨.bl _, H, I, rfl, q⟩
  · obtain ⟨bs, r2⟩ := Dp.reads I (.list ds) y u he ry
    rcases ho with ⟨rfl, rfl⟩ | ⟨rfl, rfl⟩
    · exact SeqAt.in_list_reads r2 r1 se sd (room60 dd hu) ⟨.bl _, H, I, rfl, q⟩
    · exact SeqAt.notIn_list_reads r2 r1 se sd (room60 dd hu) ⟨.bl _, H, I, rfl, q⟩

/-! ### comparisons -/
abbrev OPc (Γ : Gam) (op : COp) : R2 := OP2 Γ fun a b _ => (cmpM op a b).map .bl
theorem map_some {α β : Type} {o : Option α} {f : α → β} {z : β} (h : o.map f = some z) : ∃ a, o = some a ∧ f a = z := Option.map_eq_some_iff.mp h
def rEqN (K : PySem.W.Frag) (b : Bool) : R2 := fun x y H Q => ∃ l m xs ys, x = .ref l ∧ y = .ref m ∧ SqL K H l xs ∧ SqL K H m ys ∧ xs.length ≠ ys.length ∧ Q (.bl b) H
theorem op_eqN (hu : X.A.units < cLine) : OpR X (compareOp .Eq) (rEqN X.K false) := by
  intro pins s σ H x y v u Q I rx ry h
  obtain ⟨l, m, xs, ys, rfl, rfl, ha, hb, hne, q⟩ := h
  cases (show v = Value.ref l from rx)
  cases (show u = Value.ref m from ry)
  obtain ⟨us, r1, p1, _⟩ := I.list ha
  obtain ⟨ws, r2, p2, _⟩ := I.list hb
  refine SeqAt.RcAt.lists_lengths p1.isList p2.isList ?_ hu _ _ _ _ ⟨.bl false, H, I, rfl, q⟩
  rw [List.size_toArray, List.size_toArray, ← r1.length, ← r2.length]
  simpa using hne
theorem op_neN (hu : X.A.units < cLine) : OpR X (compareOp .NotEq) (rEqN X.K true) := by
  intro pins s σ H x y v u Q I rx ry h
  obtain ⟨l, m, xs, ys, rfl, rfl, ha, hb, hne, q⟩ := h
  cases (show v = Value.ref l from rx)
  cases (show u = Value.ref m from ry)
  obtain ⟨us, r1, p1, _⟩ := I.list ha
  obtain ⟨ws, r2, p2, _⟩ := I.list hb
  refine SeqAt.RcNeAt.lists_lengths p1.isList p2.isList ?_ hu _ _ _ _ ⟨.bl true, H, I, rfl, q⟩
  rw [List.size_toArray, List.size_toArray, ← r1.length, ← r2.length]
  simpa using hne
theorem lenNe_read {x y : MV} {u v : V} (h : lenNe x y = true) (rx : ReadV Γ w x u) (ry : ReadV Γ w y v) : ∃ l m xs ys, u = .ref l ∧ v = .ref m ∧ SqL Γ.K w.H l xs ∧ SqL Γ.K w.H m ys ∧ xs.length ≠ ys.length := by
  cases x with
  | lst k xs =>
    cases y with
    | lst j ys =>
      obtain ⟨a, vs, e1, _, s1, r1⟩ := rx
      obtain ⟨b, us, e2, _, s2, r2⟩ := ry
      exact ⟨a, b, vs, us, e1, e2, s1, s2, by rw [← r1.length, ← r2.length]; exact of_decide_eq_true h⟩
    | _ => cases h
  | _ => cases h
theorem ite2_some {α : Type} {c d : Prop} [Decidable c] [Decidable d] {x y z : α} (h : (if c then some x else if d then some y else none) = some z) : (c ∧ x = z) ∨ (d ∧ y = z) := by
  by_cases hc : c
  · rw [if_pos hc] at h; exact .inl ⟨hc, Option.some.inj h⟩
  · rw [if_neg hc] at h
    exact .inr (ite_some h)
theorem o_eq (hK : X.K = Γ.K) (hu : X.A.units + 65 < cLine) : OpR X (compareOp .Eq) (OPc Γ .eq) := OP2.rd fun w x y z u v Q k rx ry e q => by
  obtain ⟨b, e', rfl⟩ := map_some e
  replace e := e'
  rcases ite2_some e with ⟨h, rfl⟩ | ⟨h, rfl⟩
  · rw [Bool.and_eq_true] at h
    have d1 := rx.dp h.1
    have d2 := ry.dp h.2
    rw [← hK] at d1 d2
    exact ⟨_, op_eqD (by omega), _, _, d1, d2, MV.shp_shaped h.1, MV.shp_shaped h.2, done1 k (.bl _) q⟩
  · obtain ⟨l, m, xs, ys, e1, e2, s1, s2, hn⟩ := lenNe_read h rx ry
    rw [← hK] at s1 s2
    exact ⟨_, op_eqN (by omega), l, m, xs, ys, e1, e2, s1, s2, hn, done1 k (.bl _) q⟩
theorem o_ne (hK : X.K = Γ.K) (hu : X.A.units + 65 < cLine) : OpR X (compareOp .NotEq) (OPc Γ .ne) := OP2.rd fun w x y z u v Q k rx ry e q => by
  obtain ⟨b, e', rfl⟩ := map_some e
  replace e := e'
  rcases ite2_some e with ⟨h, rfl⟩ | ⟨h, rfl⟩
  · rw [Bool.and_eq_true] at h
    have d1 := rx.dp h.1
    have d2 := ry.dp h.2
    rw [← hK] at d1 d2
    exact ⟨_, op_neD (by omega), _, _, d1, d2, MV.shp_shaped h.1, MV.shp_shaped h.2, done1 k (.bl _) q⟩
  · obtain ⟨l, m, xs, ys, e1, e2, s1, s2, hn⟩ := lenNe_read h rx ry
    rw [← hK] at s1 s2
    exact ⟨_, op_neN (by omega), l, m, xs, ys, e1, e2, s1, s2, hn, done1 k (.bl _) q⟩
theorem lexLt_eq : ∀ is js : List Int, HT.lexLt is js = lexLt is js
  | [], [] => rfl
  | [], _ :: _ => rfl
  | _ :: _, [] => rfl
  | x :: xs, y :: ys => by rw [HT.lexLt_cons, lexLt, lexLt_eq xs ys]
theorem o_lt (hK : X.K = Γ.K) (hu : X.A.units + 65 < cLine) : OpR X (compareOp .Lt) (OPc Γ .lt) := OP2.rd fun w x y z u v Q k rx ry e q => by
  obtain ⟨b, e', rfl⟩ := map_some e
  replace e := e'
  cases x with
  | int i =>
    cases y with
    | int j => cases e; rw [rx.int, ry.int]; exact ⟨_, op_lt, i, j, rfl, rfl, done1 k (.bl _) q⟩
    | _ => cases e
  | tup xs =>
    cases y with
    | tup ys =>
      simp only [cmpM] at e
      split at e
      · rename_i is js e1 e2
        cases e
        obtain ⟨_, a, vs, rfl, h1, r1⟩ := rx.tup
        obtain ⟨_, b, us, rfl, h2, r2⟩ := ry.tup
        rw [← hK] at h1 h2
        rw [reps_ints r1 e1] at h1
        rw [reps_ints r2 e2] at h2
        exact ⟨_, op_ltT (by omega), a, b, is, js, rfl, rfl, h1, h2, by rw [lexLt_eq]; exact done1 k (.bl _) q⟩
      · cases e
    | _ => cases e
  | _ => cases y <;> cases e
theorem o_le : OpR X (compareOp .LtE) (OPc Γ .le) := OP2.rd fun w x y z u v Q k rx ry e q => by
  obtain ⟨b, e', rfl⟩ := map_some e
  replace e := e'
  cases x with
  | int i =>
    cases y with
    | int j => cases e; rw [rx.int, ry.int]; exact ⟨_, op_le, i, j, rfl, rfl, done1 k (.bl _) q⟩
    | _ => cases e
  | _ => cases y <;> cases e
theorem o_gt : OpR X (compareOp .Gt) (OPc Γ .gt) := OP2.rd fun w x y z u v Q k rx ry e q => by
  obtain ⟨b, e', rfl⟩ := map_some e
  replace e := e'
  cases x with
  | int i =>
    cases y with
    | int j => cases e; rw [rx.int, ry.int]; exact ⟨_, op_gt, i, j, rfl, rfl, done1 k (.bl _) q⟩
    | _ => cases e
  | _ => cases y <;> cases e
theorem o_ge : OpR X (compareOp .GtE) (OPc Γ .ge) := OP2.rd fun w x y z u v Q k rx ry e q => by
  obtain ⟨b, e', rfl⟩ := map_some e
  replace e := e'
  cases x with
  | int i =>
    cases y with
    | int j => cases e; rw [rx.int, ry.int]; exact ⟨_, op_ge, i, j, rfl, rfl, done1 k (.bl _) q⟩
    | _ => cases e
  | _ => cases y <;> cases e
theorem rep_non {x : MV} {v : V} (r : ReadV Γ w x v) : decide (v = V.non) = x.isNon := by
  cases x with
  | non => rw [r.non]; rfl
  | bl b => rw [r.bl]; rfl
  | int b => rw [r.int]; rfl
  | str b => rw [r.str]; rfl
  | tup xs => obtain ⟨_, a, vs, rfl, _⟩ := r.tup; rfl
  | lst k xs => obtain ⟨a, vs, rfl, _⟩ := r; rfl
  | dct k t xs => obtain ⟨a, rfl, _⟩ := r; rfl
  | st k xs => exact r.elim
  | ref n => cases (show Rep Γ w _ _ from r); rfl
theorem o_isN : OpR X (compareOp .Is) (OP2 Γ fun a b _ => match b with | .non => (cmpM .isN a b).map .bl | _ => none) := OP2.rd fun w x y z u v Q k rx ry e q => by
  cases y with
  | non =>
    cases e
    rw [ry.non]
    exact ⟨_, op_isN, rfl, by rw [rep_non rx]; exact done1 k (.bl _) q⟩
  | _ => cases e
theorem o_notN : OpR X (compareOp .IsNot) (OP2 Γ fun a b _ => match b with | .non => (cmpM .notN a b).map .bl | _ => none) := OP2.rd fun w x y z u v Q k rx ry e q => by
  cases y with
  | non =>
    cases e
    rw [ry.non]
    refine ⟨_, op_notN, rfl, ?_⟩
    rw [rep_non rx]
    exact done1 k (.bl _) q
  | _ => cases e
/-- what is no bool is no bool -/
def rIsO : R2 := fun x y H Q => (∃ b : Bool, y = .bl b) ∧ (∀ b : Bool, x ≠ .bl b) ∧ ((∃ i, x = .int i) ∨ (∃ s, x = .str s) ∨ x = .non ∨ ∃ a, x = .ref a) ∧ Q (.bl false) H
theorem op_isO : OpR X (compareOp .Is) rIsO := by
  intro pins s σ H x y v u Q I rx ry h
  obtain ⟨⟨b, rfl⟩, _, hx, q⟩ := h
  cases (show u = Value.bool b from ry)
  rcases hx with ⟨i, rfl⟩ | ⟨i, rfl⟩ | rfl | ⟨a, rfl⟩
  · obtain ⟨t, rfl⟩ := rx
    exact wpAny_is_other rfl (fun z => by cases z) ⟨.bl false, H, I, rfl, q⟩
  · obtain ⟨t, rfl⟩ := rx
    exact wpAny_is_other rfl (fun z => by cases z) ⟨.bl false, H, I, rfl, q⟩
  · cases rx
    exact wpAny_is_other rfl (fun z => by cases z) ⟨.bl false, H, I, rfl, q⟩
  · cases rx
    exact wpAny_is_other rfl (fun z => by cases z) ⟨.bl false, H, I, rfl, q⟩
theorem o_isB : OpR X (compareOp .Is) (OPc Γ .isB) := OP2.rd fun w x y z u v Q k rx ry e q => by
  obtain ⟨b, e', rfl⟩ := map_some e
  replace e := e'
  cases x with
  | bl i =>
    cases y with
    | bl j =>
      cases e; rw [rx.bl, ry.bl]
      refine ⟨_, op_isBl, i, j, rfl, rfl, ?_⟩
      have e1 : decide (i = j) = (i == j) := by cases i <;> cases j <;> rfl
      rw [e1]
      exact done1 k (.bl _) q
    | _ => cases e
  | int i =>
    cases y with
    | bl j => cases e; rw [rx.int, ry.bl]; exact ⟨_, op_isO, ⟨_, rfl⟩, fun _ => nofun, .inl ⟨_, rfl⟩, done1 k (.bl _) q⟩
    | _ => cases e
  | str i =>
    cases y with
    | bl j => cases e; rw [rx.str, ry.bl]; exact ⟨_, op_isO, ⟨_, rfl⟩, fun _ => nofun, .inr (.inl ⟨_, rfl⟩), done1 k (.bl _) q⟩
    | _ => cases e
  | non =>
    cases y with
    | bl j => cases e; rw [rx.non, ry.bl]; exact ⟨_, op_isO, ⟨_, rfl⟩, fun _ => nofun, .inr (.inr (.inl rfl)), done1 k (.bl _) q⟩
    | _ => cases e
  | tup i =>
    cases y with
    | bl j => cases e; obtain ⟨_, a, vs, rfl, _⟩ := rx.tup; rw [ry.bl]; exact ⟨_, op_isO, ⟨_, rfl⟩, fun _ => nofun, .inr (.inr (.inr ⟨_, rfl⟩)), done1 k (.bl _) q⟩
    | _ => cases e
  | _ => cases y <;> cases e
theorem o_notB : OpR X (compareOp .IsNot) (OPc Γ .notB) := OP2.rd fun w x y z u v Q k rx ry e q => by
  obtain ⟨b, e', rfl⟩ := map_some e
  replace e := e'
  cases x with
  | bl i =>
    cases y with
    | bl j =>
      cases e; rw [rx.bl, ry.bl]
      refine ⟨_, op_notBl, i, j, rfl, rfl, ?_⟩
      have e1 : decide (i = j) = (i == j) := by cases i <;> cases j <;> rfl
      rw [e1]
      exact done1 k (.bl _) q
    | _ => cases e
  | _ => cases y <;> cases e
theorem o_in (hK : X.K = Γ.K) (hu : X.A.units + 65 < cLine) (op : CmpOp) (cop : COp) (ho : (op = .In ∧ cop = .inn) ∨ (op = .NotIn ∧ cop = .nin)) :
    OpR X (compareOp op) (OP2 Γ fun a b _ => match b with | .dct _ _ _ => none | _ => (cmpM cop a b).map .bl) := OP2.rd fun w x y z u v Q k rx ry e q => by
  have key : ∀ {ys : List MV} {b : Bool}, (if (x.shp 60 && (MV.tup ys).shp 60) = true then some b else none) = some b → x.shp 60 = true ∧ ys.all (MV.shp 59) = true := fun h => by
    have h := (ite_some h).1
    rw [Bool.and_eq_true] at h
    exact h
  have an : ∀ ys : List MV, (MV.pyL ys).any (fun z => PyData.eqv z x.py) = ys.any fun y => y.eqv x := fun ys => by
    rw [pyL_map, List.any_map]; rfl
  cases y with
  | tup ys =>
    rcases ho with ⟨rfl, rfl⟩ | ⟨rfl, rfl⟩
    · obtain ⟨b, e', rfl⟩ := map_some e
      replace e := e'
      obtain ⟨hc, rfl⟩ := ite_some e
      rw [Bool.and_eq_true] at hc
      have hys : ys.all (MV.shp 59) = true := hc.2
      obtain ⟨c1, c2⟩ := MV.shp_py 60 x hc.1
      obtain ⟨c3, _⟩ := MV.shp_pyL 59 ys hys
      have d1 := rx.dp hc.1
      have d2 : Dp Γ.K w.H v (.tuple (MV.pyL ys)) := ry.dp (x := .tup ys) hc.2
      rw [← hK] at d1 d2
      exact ⟨_, op_inS hu .In false (.inl ⟨rfl, rfl⟩), _, _, d1, .inl d2, c1, c2, c3, by rw [an]; exact done1 k (.bl _) q⟩
    · obtain ⟨b, e', rfl⟩ := map_some e
      replace e := e'
      obtain ⟨hc, rfl⟩ := ite_some e
      rw [Bool.and_eq_true] at hc
      have hys : ys.all (MV.shp 59) = true := hc.2
      obtain ⟨c1, c2⟩ := MV.shp_py 60 x hc.1
      obtain ⟨c3, _⟩ := MV.shp_pyL 59 ys hys
      have d1 := rx.dp hc.1
      have d2 : Dp Γ.K w.H v (.tuple (MV.pyL ys)) := ry.dp (x := .tup ys) hc.2
      rw [← hK] at d1 d2
      exact ⟨_, op_inS hu .NotIn true (.inr ⟨rfl, rfl⟩), _, _, d1, .inl d2, c1, c2, c3, by rw [an]; exact done1 k (.bl _) q⟩
  | lst kd ys =>
    rcases ho with ⟨rfl, rfl⟩ | ⟨rfl, rfl⟩
    · obtain ⟨b, e', rfl⟩ := map_some e
      replace e := e'
      obtain ⟨hc, rfl⟩ := ite_some e
      rw [Bool.and_eq_true] at hc
      have hys : ys.all (MV.shp 59) = true := hc.2
      obtain ⟨c1, c2⟩ := MV.shp_py 60 x hc.1
      obtain ⟨c3, _⟩ := MV.shp_pyL 59 ys hys
      have d1 := rx.dp hc.1
      have d2 : Dp Γ.K w.H v (.list (MV.pyL ys)) := ry.dp (n := 60) (x := .lst kd ys) hys
      rw [← hK] at d1 d2
      exact ⟨_, op_inS hu .In false (.inl ⟨rfl, rfl⟩), _, _, d1, .inr d2, c1, c2, c3, by rw [an]; exact done1 k (.bl _) q⟩
    · obtain ⟨b, e', rfl⟩ := map_some e
      replace e := e'
      obtain ⟨hc, rfl⟩ := ite_some e
      rw [Bool.and_eq_true] at hc
      have hys : ys.all (MV.shp 59) = true := hc.2
      obtain ⟨c1, c2⟩ := MV.shp_py 60 x hc.1
      obtain ⟨c3, _⟩ := MV.shp_pyL 59 ys hys
      have d1 := rx.dp hc.1
      have d2 : Dp Γ.K w.H v (.list (MV.pyL ys)) := ry.dp (n := 60) (x := .lst kd ys) hys
      rw [← hK] at d1 d2
      exact ⟨_, op_inS hu .NotIn true (.inr ⟨rfl, rfl⟩), _, _, d1, .inr d2, c1, c2, c3, by rw [an]; exact done1 k (.bl _) q⟩
  | dct kd t ys => cases e
  | _ => rcases ho with ⟨rfl, rfl⟩ | ⟨rfl, rfl⟩ <;> cases e

/-! ### truth -/
theorem ReadV.truth {x : MV} {v : V} {b : Bool} (hK : X.K = Γ.K) (r : ReadV Γ w x v) (h : truth x = some b) : TruV X.K v w.H b := by
  rw [hK]
  cases x with
  | non => cases h; rw [r.non]; exact rfl
  | bl c => cases h; rw [r.bl]; exact rfl
  | int i =>
    cases h; rw [r.int]
    show decide (i ≠ 0) = (i != 0)
    by_cases hi : i = 0
    · subst hi; rfl
    · rw [decide_eq_true hi]; exact (bne_iff_ne.mpr hi).symm
  | str s =>
    obtain ⟨hz, rfl⟩ := ite_some h
    rw [r.str]
    refine ⟨by rw [← SZ_eq]; exact hz, ?_⟩
    by_cases hi : s.length = 0
    · rw [hi]; rfl
    · rw [decide_eq_true hi]; exact (bne_iff_ne.mpr (by omega)).symm
  | tup xs =>
    cases h
    obtain ⟨_, a, vs, rfl, hs, r⟩ := r.tup
    refine .inr (.inl ⟨vs, hs, ?_⟩)
    cases r <;> rfl
  | lst kd xs =>
    cases h
    obtain ⟨a, vs, rfl, _, hs, r⟩ := r
    refine .inl ⟨vs, hs, ?_⟩
    cases r <;> rfl
  | _ => cases h
end
end Q

/-! EvE: expressions. -/
namespace Q
open PySem L2

structure Gd (Γ : Gam) (X : Cx) : Prop where
  K : X.K = Γ.K
  calm : X.calm = true
  nd : X.N.Nodup
  hu : X.A.units + 70 < cLine
  gu : X.A.guards = some []
  xe : X.xe = fun _ _ => False

abbrev EV := Q.Env → Store → Res MV
def vt (f : EV) : Q.Env → Store → Res Bool := fun ρ M => (f ρ M).bind fun x M1 => ofO (truth (x.dr M1)) M1
/-- an expression of the text and its evaluator -/
structure Snd (Γ : Gam) (X : Cx) (f : EV) (e : Expr) : Prop where
  pe : PE X e (RD Γ f)
  pt : PT X e (RDb Γ (vt f))
  pw : ∀ op vs pos, e = .BoolOp op vs pos → PW X e (RDb Γ (vt f))

section
variable {Γ : Gam} {X : Cx} {w w0 : Wd}
theorem New.le {x : MV} {v : V} (n : New w.H x v) (l : LeE w0 w) : New w0.H x v := by
  unfold New at n ⊢
  split at n
  · exact fun a e => l.le.tr a (n a e)
  · exact fun a e => l.le.tr a (n a e)
  · exact trivial
theorem LOK.slot {ρ : Q.Env} {σ : St} (L : LOK Γ w ρ σ) {i : Nat} {x : MV} (h : getV ρ i = some x) : ∃ u, σ[i]? = some (some u) ∧ RepV Γ w x u ∧ New w.H x u := by
  unfold getV at h
  split at h
  · rename_i m e
    cases h
    obtain ⟨u, e1, r⟩ := L.v i _ e
    exact ⟨u, e1, r.repV, .of_rep r⟩
  · rename_i xs e
    cases h
    obtain ⟨a, vs, e1, h1, r, o⟩ := L.ol i _ e
    exact ⟨_, e1, ⟨a, vs, rfl, h1, r, o⟩, trivial⟩
  · rename_i t kvs e
    cases h
    obtain ⟨a, e1, h1, o⟩ := L.od i _ _ e
    exact ⟨_, e1, ⟨a, rfl, h1, o⟩, trivial⟩
  · rename_i xs e
    exact absurd e (L.os i xs)
  · cases h

/-! ### from a value to a test -/
theorem rdb_of {f : EV} {σ : St} {H : Hp} {R : Bool → Hp → Prop} (g : Gd Γ X) (h : RDb Γ (vt f) σ H R) : RD Γ f σ H fun x H' => ∃ k, TruV X.K x H' k ∧ R k H' := by
  obtain ⟨w, ρ, b, M', hH, k, L, e, q⟩ := h
  obtain ⟨x, M1, e1, e2⟩ := bind_ok e
  obtain ⟨e2, rfl⟩ := ofO_ok e2
  refine ⟨w, ρ, x, _, hH, k, L, e1, fun w' u l k' em r n => ?_⟩
  subst em
  exact ⟨b, (r.read k').truth g.K e2, q w' l k' rfl⟩
/-- the form of isTrue of a plain expression -/
def Plain (X : Cx) (e : Expr) : Prop := ∀ whole, isTrue e X.env whole = (do let v ← whole; standAt e.pos; holding [v] (truthy v))
theorem Snd.of_pe {f : EV} {e : Expr} (g : Gd Γ X) (h : PE X e (RD Γ f)) (hp : Plain X e) (hb : ∀ op vs pos, e ≠ .BoolOp op vs pos) : Snd Γ X f e :=
  ⟨h, (pt_truth h hp).imp fun σ H Q q => rdb_of g q, fun op vs pos z => absurd z (hb op vs pos)⟩

/-! ### names and constants -/
theorem s_var (g : Gd Γ X) {i : Nat} {x : Str} {pos : Pos} (hN : X.N[i]? = some x) (hv : Vis X.env.scope x) (hd : (x == ("__debug__" : Str)) = false) (hcd : (x == ("__classdict__" : Str)) = false) :
    Snd Γ X (fun ρ M => ofO (getV ρ i) M) (.Name x pos) := by
  refine .of_pe g ((pe_var hN hv hd hcd).imp fun σ H Q h => ?_) (fun _ => rfl) (fun _ _ _ z => nomatch z)
  obtain ⟨w, ρ, x, M', hH, k, L, e, q⟩ := h
  obtain ⟨e', rfl⟩ := ofO_ok e
  obtain ⟨u, e1, r, n⟩ := L.slot e'
  exact ⟨u, e1, by rw [← hH]; exact q w u (LeE.refl w) k rfl r n⟩
theorem rd_con {c : MV} {v : V} (hr : ∀ w, WOK Γ w → Rep Γ w c v) {σ : St} {H : Hp} {Q : VK} (h : RD Γ (fun _ M => .ok c M) σ H Q) : Q v H := by
  obtain ⟨w, ρ, x, M', hH, k, L, e, q⟩ := h
  cases e
  rw [← hH]
  exact q w v (LeE.refl w) k rfl (hr w k).repV (.of_rep (hr w k))
theorem s_int (g : Gd Γ X) {i : Int} {j : Nat} {pos : Pos} : Snd Γ X (fun _ M => .ok (.int i) M) (.Constant (.int i) j pos) :=
  .of_pe g (pe_int.imp fun σ H Q h => rd_con (fun _ _ => .int i) h) (fun _ => rfl) (fun _ _ _ z => nomatch z)
theorem s_bl (g : Gd Γ X) {i : Bool} {j : Nat} {pos : Pos} : Snd Γ X (fun _ M => .ok (.bl i) M) (.Constant (.bool i) j pos) :=
  .of_pe g (pe_bl.imp fun σ H Q h => rd_con (fun _ _ => .bl i) h) (fun _ => rfl) (fun _ _ _ z => nomatch z)
theorem s_non (g : Gd Γ X) {j : Nat} {pos : Pos} : Snd Γ X (fun _ M => .ok .non M) (.Constant .none j pos) :=
  .of_pe g (pe_non.imp fun σ H Q h => rd_con (fun _ _ => .non) h) (fun _ => rfl) (fun _ _ _ z => nomatch z)
theorem s_str (g : Gd Γ X) {x : Str} {j : Nat} {pos : Pos} : Snd Γ X (fun _ M => .ok (.str x) M) (.Constant (.str x) j pos) :=
  .of_pe g (pe_str.imp fun σ H Q h => rd_con (fun _ _ => .str x) h) (fun _ => rfl) (fun _ _ _ z => nomatch z)
theorem s_glob (g : Gd Γ X) {c : MV} {x : Str} {v : V} {u : Value} {pos : Pos} (hg : Gl X x) (hm : X.mg x = some u) (r : RelV v u) (hr : ∀ w, WOK Γ w → Rep Γ w c v) (hd : (x == ("__debug__" : Str)) = false) :
    Snd Γ X (fun _ M => .ok c M) (.Name x pos) :=
  .of_pe g ((pe_glob hg hm r hd).imp fun σ H Q h => rd_con hr h) (fun _ => rfl) (fun _ _ _ z => nomatch z)

/-! ### two values -/
theorem rd2 {fa fb : EV} {gg : MV → MV → Store → Option MV} {σ : St} {H : Hp} {Q : VK} (h : RD Γ (fun ρ M => (fa ρ M).bind fun x M1 => (fb ρ M1).bind fun y M2 => ofO (gg (x.dr M2) (y.dr M2) M2) M2) σ H Q) :
    tOp (OP2 Γ gg) (RD Γ fa) (RD Γ fb) σ H Q := by
  obtain ⟨w, ρ, z, M', hH, k, L, e, q⟩ := h
  obtain ⟨x, M1, e1, e2⟩ := bind_ok e
  obtain ⟨y, M2, e3, e4⟩ := bind_ok e2
  obtain ⟨e4, rfl⟩ := ofO_ok e4
  refine ⟨w, ρ, x, M1, hH, k, L, e1, fun w1 u l1 k1 em r1 n1 => ?_⟩
  subst em
  refine ⟨w1, ρ, y, _, rfl, k1, L.le l1 k, e3, fun w2 u2 l2 k2 em r2 n2 => ?_⟩
  subst em
  exact ⟨w2, x, y, z, rfl, k2, r1.le l2 k1, r2, e4, fun w3 t l3 k3 em r3 n3 => q w3 t (l1.trans (l2.trans l3)) k3 em r3 (n3.le (l1.trans l2))⟩
theorem s_bin (g : Gd Γ X) {fa fb : EV} {a b : Expr} {op : BOp} {pos : Pos} (ha : Snd Γ X fa a) (hb : Snd Γ X fb b) :
    Snd Γ X (fun ρ M => (fa ρ M).bind fun x M1 => (fb ρ M1).bind fun y M2 => ofO (binM op (x.dr M2) (y.dr M2)) M2) (.BinOp a (opOf op) b pos) :=
  .of_pe g ((pe_op (o_bin g.K op) ha.pe hb.pe).imp fun σ H Q h => rd2 h) (fun _ => rfl) (fun _ _ _ z => nomatch z)
/-- a comparison -/
theorem s_cmpG (g : Gd Γ X) {fa fb : EV} {a b : Expr} {op : CmpOp} {gg : MV → MV → Store → Option MV} {pos : Pos} (ho : OpR X (compareOp op) (OP2 Γ gg)) (hb' : ∀ x y M z, gg x y M = some z → ∃ b, z = .bl b) (hm : behindInMarks op b = false) (ha : Snd Γ X fa a) (hb : Snd Γ X fb b) :
    Snd Γ X (fun ρ M => (fa ρ M).bind fun x M1 => (fb ρ M1).bind fun y M2 => ofO (gg (x.dr M2) (y.dr M2) M2) M2) (.Compare a [op] [b] pos) := by
  refine ⟨(pe_cmpR ho ha.pe hb.pe hm).imp fun σ H Q h => rd2 h, (pt_cmpR ho ha.pe hb.pe hm).imp fun σ H Q h => ?_, fun _ _ _ z => nomatch z⟩
  obtain ⟨w, ρ, t, M', hH, k, L, e, q⟩ := h
  obtain ⟨z, M1, e1, e2⟩ := bind_ok e
  obtain ⟨e2, rfl⟩ := ofO_ok e2
  refine rd2 ⟨w, ρ, z, _, hH, k, L, e1, fun w' u l k' em r n => ?_⟩
  obtain ⟨x, M2, f1, f2⟩ := bind_ok e1
  obtain ⟨y, M3, f3, f4⟩ := bind_ok f2
  obtain ⟨f4, _⟩ := ofO_ok f4
  obtain ⟨b, rfl⟩ := hb' _ _ _ _ f4
  cases e2
  exact ⟨_, (r.read k').bl, q w' l k' em⟩
theorem s_cmp (g : Gd Γ X) {fa fb : EV} {a b : Expr} {op : CmpOp} {c : COp} {pos : Pos}
    (hc : (op = .Eq ∧ c = .eq) ∨ (op = .NotEq ∧ c = .ne) ∨ (op = .Lt ∧ c = .lt) ∨ (op = .LtE ∧ c = .le) ∨ (op = .Gt ∧ c = .gt) ∨ (op = .GtE ∧ c = .ge) ∨ (op = .Is ∧ c = .isB) ∨ (op = .IsNot ∧ c = .notB))
    (ha : Snd Γ X fa a) (hb : Snd Γ X fb b) :
    Snd Γ X (fun ρ M => (fa ρ M).bind fun x M1 => (fb ρ M1).bind fun y M2 => ofO ((cmpM c (x.dr M2) (y.dr M2)).map .bl) M2) (.Compare a [op] [b] pos) := by
  have hu : X.A.units + 65 < cLine := by have := g.hu; omega
  have hb' : ∀ c x y (M : Store) z, (cmpM c x y).map MV.bl = some z → ∃ b, z = .bl b := fun c x y M z h => let ⟨b, _, e⟩ := map_some h; ⟨b, e.symm⟩
  rcases hc with ⟨rfl, rfl⟩ | ⟨rfl, rfl⟩ | ⟨rfl, rfl⟩ | ⟨rfl, rfl⟩ | ⟨rfl, rfl⟩ | ⟨rfl, rfl⟩ | ⟨rfl, rfl⟩ | ⟨rfl, rfl⟩
  · exact s_cmpG g (o_eq g.K hu) (fun x y M z => hb' .eq x y M z) (nomark b) ha hb
  · exact s_cmpG g (o_ne g.K hu) (fun x y M z => hb' .ne x y M z) (nomark b) ha hb
  · exact s_cmpG g (o_lt g.K hu) (fun x y M z => hb' .lt x y M z) (nomark b) ha hb
  · exact s_cmpG g o_le (fun x y M z => hb' .le x y M z) (nomark b) ha hb
  · exact s_cmpG g o_gt (fun x y M z => hb' .gt x y M z) (nomark b) ha hb
  · exact s_cmpG g o_ge (fun x y M z => hb' .ge x y M z) (nomark b) ha hb
  · exact s_cmpG g o_isB (fun x y M z => hb' .isB x y M z) (nomark b) ha hb
  · exact s_cmpG g o_notB (fun x y M z => hb' .notB x y M z) (nomark b) ha hb

theorem s_isN (g : Gd Γ X) {fa : EV} {a : Expr} {j : Nat} {p pos : Pos} (ha : Snd Γ X fa a) :
    Snd Γ X (fun ρ M => (fa ρ M).bind fun x M1 => (Res.ok MV.non M1).bind fun y M2 => ofO ((cmpM .isN (x.dr M2) (y.dr M2)).map .bl) M2) (.Compare a [.Is] [.Constant .none j p] pos) :=
  s_cmpG g (gg := fun a b _ => match b with | .non => (cmpM .isN a b).map .bl | _ => none) o_isN (fun x y M z h => by
    cases y with
    | non => obtain ⟨b, _, e⟩ := map_some h; exact ⟨b, e.symm⟩
    | _ => cases h) (nomark _) ha (s_non g)
theorem s_notN (g : Gd Γ X) {fa : EV} {a : Expr} {j : Nat} {p pos : Pos} (ha : Snd Γ X fa a) :
    Snd Γ X (fun ρ M => (fa ρ M).bind fun x M1 => (Res.ok MV.non M1).bind fun y M2 => ofO ((cmpM .notN (x.dr M2) (y.dr M2)).map .bl) M2) (.Compare a [.IsNot] [.Constant .none j p] pos) :=
  s_cmpG g (gg := fun a b _ => match b with | .non => (cmpM .notN a b).map .bl | _ => none) o_notN (fun x y M z h => by
    cases y with
    | non => obtain ⟨b, _, e⟩ := map_some h; exact ⟨b, e.symm⟩
    | _ => cases h) (nomark _) ha (s_non g)

/-! ### a dict by a key -/
theorem k1_rep {x : MV} {v : V} {k : K1} (r : ReadV Γ w x v) (h : k1Of x = some k) : v = kV k := by
  cases x with
  | int i => cases h; exact r.int
  | str s => cases h; exact r.str
  | _ => cases h
theorem repK_get {ps : List (Key × V)} : ∀ {kvs : List (KY × MV)} {k : K1}, RepK Γ w kvs ps → (match dget kvs (.one k) with | some m => ∃ u, valV ps k = some u ∧ Rep Γ w m u | none => valV ps k = none) := by
  induction ps with
  | nil => intro kvs k r; cases r; exact rfl
  | cons p ps ih =>
    intro kvs k r
    cases r with
    | @cons j x v xs vs rx rt =>
      by_cases e : j = k
      · subst e
        rw [show dget ((KY.one j, x) :: xs) (.one j) = some x from if_pos rfl]
        exact ⟨v, valV_pos rfl, rx⟩
      · have e1 : dget ((KY.one j, x) :: xs) (.one k) = dget xs (.one k) := if_neg fun z => e (KY.one.inj z)
        rw [e1, valV_neg (show ¬ (j, v).1 = k from e)]
        exact ih rt
theorem inl_inj : ∀ {a b : List Int}, a.map (Sum.inl : Int → Key) = b.map Sum.inl → a = b
  | [], [], _ => rfl
  | [], _ :: _, h => nomatch h
  | _ :: _, [], h => nomatch h
  | x :: xs, y :: ys, h => by
    rw [List.map_cons, List.map_cons] at h
    obtain ⟨h1, h2⟩ := List.cons.inj h
    rw [Sum.inl.inj h1, inl_inj h2]
theorem repT_get {ps : List (List Key × V)} : ∀ {kvs : List (KY × MV)} {k : List Int}, RepT Γ w kvs ps → (match dget kvs (.tup k) with | some m => ∃ u, valV ps (k.map Sum.inl) = some u ∧ Rep Γ w m u | none => valV ps (k.map Sum.inl) = none) := by
  induction ps with
  | nil => intro kvs k r; cases r; exact rfl
  | cons p ps ih =>
    intro kvs k r
    cases r with
    | @cons j x v xs vs rx rt =>
      by_cases e : j = k
      · subst e
        rw [show dget ((KY.tup j, x) :: xs) (.tup j) = some x from if_pos rfl]
        exact ⟨v, valV_pos rfl, rx⟩
      · have e1 : dget ((KY.tup j, x) :: xs) (.tup k) = dget xs (.tup k) := if_neg fun z => e (KY.tup.inj z)
        rw [e1, valV_neg (show ¬ (j.map Sum.inl, v).1 = k.map Sum.inl from fun z => e (inl_inj z))]
        exact ih rt
/-- a key, read -/
theorem key_read {t : Bool} {x : MV} {v : V} {k : KY} (r : ReadV Γ w x v) (h : keyT t x = some k) :
    (t = false ∧ ∃ j, k = .one j ∧ v = kV j) ∨ (t = true ∧ ∃ is b, k = .tup is ∧ v = .ref b ∧ w.H b = some (.tup ((is.map Sum.inl).map kV)) ∧ w.F b) := by
  unfold keyT at h
  split at h
  · rename_i j e
    split at h
    · rename_i et
      cases h
      cases x with
      | tup xs =>
        simp only [keyOf] at e
        split at e
        · rename_i is ei
          by_cases hn : is = []
          · rw [if_pos hn] at e; cases e
          · rw [if_neg hn] at e
            cases e
            refine .inr ⟨et.symm, is, ?_⟩
            cases (show Rep Γ w _ _ from r) with
            | @tup _ b vs hb rs =>
              have ev := reps_ints rs ei
              subst ev
              refine ⟨b, rfl, rfl, ?_⟩
              have em : (is.map (Sum.inl : Int → Key)).map kV = is.map V.int := by rw [List.map_map]; rfl
              rw [em]
              rcases hb with ⟨h1, h2⟩ | hb
              · exact ⟨h2, h1⟩
              · exact absurd rfl (Γ.ki _ hb.1 is hn)
        · cases e
      | int i => cases e; exact .inl ⟨et.symm, _, rfl, k1_rep r rfl⟩
      | str s => cases e; exact .inl ⟨et.symm, _, rfl, k1_rep r rfl⟩
      | _ => cases e
    · cases h
  · cases h
theorem dget_read {t : Bool} {x : MV} {v : V} {k : KY} {kvs : List (KY × MV)} {a : Addr} (r : ReadV Γ w x v) (h : keyT t x = some k) (d : RepD Γ w t kvs a) :
    ∃ o, DGet w.H a v o ∧ (match dget kvs k with | some m => ∃ u, o = some u ∧ Rep Γ w m u | none => o = none) := by
  unfold RepD at d
  rcases key_read r h with ⟨rfl, j, rfl, rfl⟩ | ⟨rfl, is, b, rfl, rfl, hb, _⟩
  · rw [if_neg Bool.false_ne_true] at d
    obtain ⟨ps, h1, r1⟩ := d
    exact ⟨_, DGet.k h1, repK_get r1⟩
  · rw [if_pos rfl] at d
    obtain ⟨ps, h1, r1⟩ := d
    exact ⟨_, DGet.t h1 hb, repT_get r1⟩

/-! ### and, or, not, if -/
theorem vt_ok {f : EV} {ρ : Q.Env} {M M' : Store} {b : Bool} (h : vt f ρ M = .ok b M') : ∃ x, f ρ M = .ok x M' ∧ truth (x.dr M') = some b := by
  obtain ⟨x, M1, e1, e2⟩ := bind_ok h
  obtain ⟨e2, rfl⟩ := ofO_ok e2
  exact ⟨x, e1, e2⟩
theorem vt_mk {f : EV} {ρ : Q.Env} {M M' : Store} {b : Bool} {x : MV} (h : f ρ M = .ok x M') (e : truth (x.dr M') = some b) : vt f ρ M = .ok b M' := by
  unfold vt
  rw [h]
  show ofO (truth (x.dr M')) M' = _
  rw [e]
  rfl
def fNot (fa : EV) : EV := fun ρ M => (fa ρ M).bind fun x M1 => ofO ((truth (x.dr M1)).map fun b => MV.bl (!b)) M1
def fAnd (fa fb : EV) : EV := fun ρ M => (fa ρ M).bind fun x M1 => (ofO (truth (x.dr M1)) M1).bind fun t M2 => if t then fb ρ M2 else .ok x M2
def fOr (fa fb : EV) : EV := fun ρ M => (fa ρ M).bind fun x M1 => (ofO (truth (x.dr M1)) M1).bind fun t M2 => if t then .ok x M2 else fb ρ M2
def fIte (fc fa fb : EV) : EV := fun ρ M => (fc ρ M).bind fun x M1 => (ofO (truth (x.dr M1)) M1).bind fun t M2 => if t then fa ρ M2 else fb ρ M2
theorem s_not (g : Gd Γ X) {fa : EV} {a : Expr} {pos : Pos} (ha : Snd Γ X fa a) : Snd Γ X (fNot fa) (.UnaryOp .Not a pos) := by
  refine ⟨(pe_notT ha.pe).imp fun σ H Q h => ?_, (pt_not ha.pt).imp fun σ H Q h => ?_, fun _ _ _ z => nomatch z⟩
  · obtain ⟨w, ρ, z, M', hH, k, L, e, q⟩ := h
    obtain ⟨x, M1, e1, e2⟩ := bind_ok e
    obtain ⟨e2, rfl⟩ := ofO_ok e2
    obtain ⟨b, e3, rfl⟩ := map_some e2
    refine ⟨w, ρ, x, _, hH, k, L, e1, fun w' u l k' em r n => ?_⟩
    subst em
    exact ⟨b, (r.read k').truth g.K e3, q w' _ l k' rfl (Rep.bl _).repV trivial⟩
  · obtain ⟨w, ρ, b, M', hH, k, L, e, q⟩ := h
    obtain ⟨z, e1, e2⟩ := vt_ok e
    obtain ⟨x, M1, e3, e4⟩ := bind_ok e1
    obtain ⟨e4, rfl⟩ := ofO_ok e4
    obtain ⟨c, e5, rfl⟩ := map_some e4
    cases e2
    exact ⟨w, ρ, c, _, hH, k, L, vt_mk e3 e5, fun w' l k' em => q w' l k' em⟩
/-- the tail of an and, an or -/
structure Tail (Γ : Gam) (X : Cx) (f : EV) (op : BoolOp) (vs : List Expr) (pos : Pos) : Prop where
  pe : PE X (.BoolOp op vs pos) (RD Γ f)
  pw : PW X (.BoolOp op vs pos) (RDb Γ (vt f))
theorem Tail.one {f : EV} {e : Expr} {op : BoolOp} {pos : Pos} (h : Snd Γ X f e) : Tail Γ X f op [e] pos :=
  ⟨pe_one h.pe, match op with | .And => pw_and1 h.pt | .Or => pw_or1 h.pt⟩
theorem Tail.more {f : EV} {op : BoolOp} {vs : List Expr} {pos : Pos} (h : Snd Γ X f (.BoolOp op vs pos)) : Tail Γ X f op vs pos := ⟨h.pe, h.pw _ _ _ rfl⟩
theorem s_and (g : Gd Γ X) {fa fb : EV} {a b : Expr} {rest : List Expr} {pos : Pos} (ha : Snd Γ X fa a) (hb : Tail Γ X fb .And (b :: rest) pos) : Snd Γ X (fAnd fa fb) (.BoolOp .And (a :: b :: rest) pos) := by
  have hw : PW X (.BoolOp .And (a :: b :: rest) pos) (RDb Γ (vt (fAnd fa fb))) := (pw_and ha.pt hb.pw).imp fun σ H Q h => by
    obtain ⟨w, ρ, c, M', hH, k, L, e, q⟩ := h
    obtain ⟨z, e1, e2⟩ := vt_ok e
    obtain ⟨x, M1, e3, e4⟩ := bind_ok e1
    obtain ⟨t, M2, e5, e6⟩ := bind_ok e4
    obtain ⟨e5, rfl⟩ := ofO_ok e5
    refine ⟨w, ρ, t, _, hH, k, L, vt_mk e3 e5, fun w' l k' em => ?_⟩
    subst em
    cases t with
    | true => rw [if_pos rfl] at e6 ⊢; exact ⟨w', ρ, c, M', rfl, k', L.le l k, vt_mk e6 e2, fun w2 l2 k2 em => q w2 (l.trans l2) k2 em⟩
    | false =>
      rw [if_neg Bool.false_ne_true] at e6 ⊢
      cases e6
      rw [e5] at e2
      cases e2
      exact q w' l k' rfl
  refine ⟨(pe_andT ha.pe hb.pe).imp fun σ H Q h => ?_, hw.pt, fun op vs pos z => by cases z; exact hw⟩
  obtain ⟨w, ρ, z, M', hH, k, L, e, q⟩ := h
  obtain ⟨x, M1, e1, e2⟩ := bind_ok e
  obtain ⟨t, M2, e3, e4⟩ := bind_ok e2
  obtain ⟨e3, rfl⟩ := ofO_ok e3
  refine ⟨w, ρ, x, _, hH, k, L, e1, fun w' u l k' em r n => ?_⟩
  subst em
  refine ⟨t, (r.read k').truth g.K e3, ?_⟩
  cases t with
  | true => rw [if_pos rfl] at e4 ⊢; exact ⟨w', ρ, z, M', rfl, k', L.le l k, e4, fun w2 u2 l2 k2 em r n => q w2 u2 (l.trans l2) k2 em r (n.le l)⟩
  | false => rw [if_neg Bool.false_ne_true] at e4 ⊢; cases e4; exact q w' u l k' rfl r n
theorem s_or (g : Gd Γ X) {fa fb : EV} {a b : Expr} {rest : List Expr} {pos : Pos} (ha : Snd Γ X fa a) (hb : Tail Γ X fb .Or (b :: rest) pos) : Snd Γ X (fOr fa fb) (.BoolOp .Or (a :: b :: rest) pos) := by
  have hw : PW X (.BoolOp .Or (a :: b :: rest) pos) (RDb Γ (vt (fOr fa fb))) := (pw_or ha.pt hb.pw).imp fun σ H Q h => by
    obtain ⟨w, ρ, c, M', hH, k, L, e, q⟩ := h
    obtain ⟨z, e1, e2⟩ := vt_ok e
    obtain ⟨x, M1, e3, e4⟩ := bind_ok e1
    obtain ⟨t, M2, e5, e6⟩ := bind_ok e4
    obtain ⟨e5, rfl⟩ := ofO_ok e5
    refine ⟨w, ρ, t, _, hH, k, L, vt_mk e3 e5, fun w' l k' em => ?_⟩
    subst em
    cases t with
    | false => rw [if_neg Bool.false_ne_true] at e6 ⊢; exact ⟨w', ρ, c, M', rfl, k', L.le l k, vt_mk e6 e2, fun w2 l2 k2 em => q w2 (l.trans l2) k2 em⟩
    | true =>
      rw [if_pos rfl] at e6 ⊢
      cases e6
      rw [e5] at e2
      cases e2
      exact q w' l k' rfl
  refine ⟨(pe_orT ha.pe hb.pe).imp fun σ H Q h => ?_, hw.pt, fun op vs pos z => by cases z; exact hw⟩
  obtain ⟨w, ρ, z, M', hH, k, L, e, q⟩ := h
  obtain ⟨x, M1, e1, e2⟩ := bind_ok e
  obtain ⟨t, M2, e3, e4⟩ := bind_ok e2
  obtain ⟨e3, rfl⟩ := ofO_ok e3
  refine ⟨w, ρ, x, _, hH, k, L, e1, fun w' u l k' em r n => ?_⟩
  subst em
  refine ⟨t, (r.read k').truth g.K e3, ?_⟩
  cases t with
  | false => rw [if_neg Bool.false_ne_true] at e4 ⊢; exact ⟨w', ρ, z, M', rfl, k', L.le l k, e4, fun w2 u2 l2 k2 em r n => q w2 u2 (l.trans l2) k2 em r (n.le l)⟩
  | true => rw [if_pos rfl] at e4 ⊢; cases e4; exact q w' u l k' rfl r n
theorem pt_ifExp {c a b : Expr} {tc ta tb : TT} {pos : Pos} (hc : PT X c tc) (ha : PT X a ta) (hb : PT X b tb) : PT X (.IfExp c a b pos) (fun σ H Q => tc σ H fun d H1 => if d = true then ta σ H1 Q else tb σ H1 Q) := by
  refine ⟨fun pins s σ H Q I h => ?_⟩
  have e : isTrue (.IfExp c a b pos) X.env (eval (.IfExp c a b pos) X.env) = (do if ← isTrue c X.env (eval c X.env) then isTrue a X.env (eval a X.env) else isTrue b X.env (eval b X.env)) := by rfl
  rw [e]
  refine wpAny_bind (thn (hc.run pins s σ H _ I h) fun d s1 ⟨H1, I1, q1⟩ => ?_)
  cases d with
  | true => exact ha.run pins s1 σ H1 Q I1 q1
  | false => exact hb.run pins s1 σ H1 Q I1 q1
theorem s_ite (g : Gd Γ X) {fc fa fb : EV} {c a b : Expr} {pos : Pos} (hc : Snd Γ X fc c) (ha : Snd Γ X fa a) (hb : Snd Γ X fb b) : Snd Γ X (fIte fc fa fb) (.IfExp c a b pos) := by
  refine ⟨(pe_ifExp hc.pt ha.pe hb.pe).imp fun σ H Q h => ?_, (pt_ifExp hc.pt ha.pt hb.pt).imp fun σ H Q h => ?_, fun _ _ _ z => nomatch z⟩
  · obtain ⟨w, ρ, z, M', hH, k, L, e, q⟩ := h
    obtain ⟨x, M1, e1, e2⟩ := bind_ok e
    obtain ⟨t, M2, e3, e4⟩ := bind_ok e2
    obtain ⟨e3, rfl⟩ := ofO_ok e3
    refine ⟨w, ρ, t, _, hH, k, L, vt_mk e1 e3, fun w' l k' em => ?_⟩
    subst em
    cases t with
    | true => rw [if_pos rfl] at e4 ⊢; exact ⟨w', ρ, z, M', rfl, k', L.le l k, e4, fun w2 u2 l2 k2 em r n => q w2 u2 (l.trans l2) k2 em r (n.le l)⟩
    | false => rw [if_neg Bool.false_ne_true] at e4 ⊢; exact ⟨w', ρ, z, M', rfl, k', L.le l k, e4, fun w2 u2 l2 k2 em r n => q w2 u2 (l.trans l2) k2 em r (n.le l)⟩
  · obtain ⟨w, ρ, c, M', hH, k, L, e, q⟩ := h
    obtain ⟨z, e0, e9⟩ := vt_ok e
    obtain ⟨x, M1, e1, e2⟩ := bind_ok e0
    obtain ⟨t, M2, e3, e4⟩ := bind_ok e2
    obtain ⟨e3, rfl⟩ := ofO_ok e3
    refine ⟨w, ρ, t, _, hH, k, L, vt_mk e1 e3, fun w' l k' em => ?_⟩
    subst em
    cases t with
    | true => rw [if_pos rfl] at e4 ⊢; exact ⟨w', ρ, c, M', rfl, k', L.le l k, vt_mk e4 e9, fun w2 l2 k2 em => q w2 (l.trans l2) k2 em⟩
    | false => rw [if_neg Bool.false_ne_true] at e4 ⊢; exact ⟨w', ρ, c, M', rfl, k', L.le l k, vt_mk e4 e9, fun w2 l2 k2 em => q w2 (l.trans l2) k2 em⟩

/-! ### lists of expressions -/
abbrev EVs := Q.Env → Store → Res (List MV)
def fNil : EVs := fun _ M => .ok [] M
def fsCons (f : EV) (fs : EVs) : EVs := fun ρ M => (f ρ M).bind fun x M1 => (fs ρ M1).bind fun xs M2 => .ok (x :: xs) M2
def fkCons (f : EV) (fs : EVs) : EVs := fun ρ M => (f ρ M).bind fun x M1 => (ofO x.frz M1).bind fun y M2 => (fs ρ M2).bind fun ys M3 => .ok (y :: ys) M3
/-- not starred -/
def NoStar (e : Expr) : Prop := ∀ es (env : PySem.Env), starEach (e :: es) env = (false, eval e env) :: starEach es env
theorem s_nil : PA X [] (RDk Γ fNil) := pa_nil.imp fun σ H Q h => by
  obtain ⟨w, ρ, vs, M', hH, k, L, e, q⟩ := h
  cases e
  rw [← hH]
  exact q w [] (LeE.refl w) k rfl .nil
theorem News.le {xs : List MV} {vs : List V} (n : News w.H xs vs) (l : LeE w0 w) : News w0.H xs vs := by
  induction n with
  | nil => exact .nil
  | cons a _ ih => exact .cons (a.le l) ih
theorem s_nils : PA X [] (RDs Γ fNil) := pa_nil.imp fun σ H Q h => by
  obtain ⟨w, ρ, vs, M', hH, k, L, e, q⟩ := h
  cases e
  rw [← hH]
  exact q w [] (LeE.refl w) k rfl .nil .nil
theorem s_cons {f : EV} {fs : EVs} {e : Expr} {es : List Expr} (he : PE X e (RD Γ f)) (hes : PA X es (RDk Γ fs)) (hs : NoStar e) : PA X (e :: es) (RDk Γ (fkCons f fs)) := (pa_cons he hes (hs _ _)).imp fun σ H Q h => by
  obtain ⟨w, ρ, vs, M', hH, k, L, e, q⟩ := h
  obtain ⟨x, M1, e1, e2⟩ := bind_ok e
  obtain ⟨y, M2, e3, e4⟩ := bind_ok e2
  obtain ⟨e3', rfl⟩ := ofO_ok e3
  obtain ⟨ys, M3, e5, e6⟩ := bind_ok e4
  cases e6
  refine ⟨w, ρ, x, _, hH, k, L, e1, fun w1 u l1 k1 em r1 n1 => ?_⟩
  obtain ⟨w2, h2, m2, o2, k2, l2, s2, r2⟩ := r1.keep k1 l1 n1 e3'
  rw [← h2]
  refine ⟨w2, ρ, ys, M', rfl, k2, L.le l2 k, by rw [m2, em]; exact e5, fun w3 us l3 k3 em3 r3 => ?_⟩
  exact q w3 (u :: us) (l2.trans l3) k3 em3 (.cons (r2.stay (l3.stay k2)) r3)
theorem s_conss {f : EV} {fs : EVs} {e : Expr} {es : List Expr} (he : PE X e (RD Γ f)) (hes : PA X es (RDs Γ fs)) (hs : NoStar e) : PA X (e :: es) (RDs Γ (fsCons f fs)) := (pa_cons he hes (hs _ _)).imp fun σ H Q h => by
  obtain ⟨w, ρ, vs, M', hH, k, L, e, q⟩ := h
  obtain ⟨x, M1, e1, e2⟩ := bind_ok e
  obtain ⟨ys, M3, e5, e6⟩ := bind_ok e2
  cases e6
  refine ⟨w, ρ, x, _, hH, k, L, e1, fun w1 u l1 k1 em r1 n1 => ?_⟩
  subst em
  refine ⟨w1, ρ, ys, M', rfl, k1, L.le l1 k, e5, fun w3 us l3 k3 em3 r3 n3 => ?_⟩
  exact q w3 (u :: us) (l1.trans l3) k3 em3 (.cons (r1.le l3 k1) r3) (.cons n1 (n3.le l1))
def fTup (fs : EVs) : EV := fun ρ M => (fs ρ M).bind fun ys M2 => if ys.length ≤ SZ then .ok (.tup ys) M2 else .stuck
def fLst (fs : EVs) : EV := fun ρ M => (fs ρ M).bind fun ys M2 => if ys.length ≤ SZ then .ok (.lst .nw ys) M2 else .stuck
theorem ite_ok {α : Type} {c : Prop} [Decidable c] {x : Res α} {y : α} {M : Store} (h : (if c then x else .stuck) = .ok y M) : c ∧ x = .ok y M := by
  by_cases hc : c
  · rw [if_pos hc] at h; exact ⟨hc, h⟩
  · rw [if_neg hc] at h; cases h
theorem s_tup (g : Gd Γ X) {fs : EVs} {es : List Expr} {j : Nat} {pos : Pos} (h : PA X es (RDk Γ fs)) : Snd Γ X (fTup fs) (.Tuple es j pos) :=
  .of_pe g ((pe_tup h).imp fun σ H Q h => by
    obtain ⟨w, ρ, z, M', hH, k, L, e, q⟩ := h
    obtain ⟨ys, M1, e1, e2⟩ := bind_ok e
    obtain ⟨hz, e2⟩ := ite_ok e2
    cases e2
    refine ⟨w, ρ, ys, _, hH, k, L, e1, fun w1 us l1 k1 em r1 => ⟨by rw [← r1.length, ← SZ_eq]; exact hz, fun p hp => ?_⟩⟩
    exact doneT k1 hp r1 fun w' t l k' em' r n => q w' t (l1.trans l) k' (em'.trans em) r (n.le l1)) (fun _ => rfl) (fun _ _ _ z => nomatch z)
theorem s_lst (g : Gd Γ X) {fs : EVs} {es : List Expr} {pos : Pos} (h : PA X es (RDk Γ fs)) : Snd Γ X (fLst fs) (.List es pos) :=
  .of_pe g ((pe_lst h).imp fun σ H Q h => by
    obtain ⟨w, ρ, z, M', hH, k, L, e, q⟩ := h
    obtain ⟨ys, M1, e1, e2⟩ := bind_ok e
    obtain ⟨hz, e2⟩ := ite_ok e2
    cases e2
    refine ⟨w, ρ, ys, _, hH, k, L, e1, fun w1 us l1 k1 em r1 => ⟨by rw [← r1.length, ← SZ_eq]; exact hz, fun p hp => ?_⟩⟩
    exact doneL k1 hp r1 fun w' t l k' em' r n => q w' t (l1.trans l) k' (em'.trans em) r (n.le l1)) (fun _ => rfl) (fun _ _ _ z => nomatch z)
end
end Q

/-! EvF: subscripts, slices, membership, dicts, fields. -/
namespace Q
open PySem L2
section
variable {Γ : Gam} {X : Cx} {w w0 : Wd}

theorem Gd.u1 (g : Gd Γ X) : X.A.units + 1 < cLine := by have := g.hu; omega
def fNeg (fa : EV) : EV := fun ρ M => (fa ρ M).bind fun x M1 => match x with
  | .int i => .ok (.int (-i)) M1
  | _ => .stuck
theorem s_neg (g : Gd Γ X) {fa : EV} {a : Expr} {pos : Pos} (ha : Snd Γ X fa a) : Snd Γ X (fNeg fa) (.UnaryOp .USub a pos) :=
  .of_pe g ((pe_un un_neg ha.pe).imp fun σ H Q h => by
    obtain ⟨w, ρ, z, M', hH, k, L, e, q⟩ := h
    obtain ⟨x, M1, e1, e2⟩ := bind_ok e
    cases x with
    | int i =>
      cases e2
      refine ⟨w, ρ, _, _, hH, k, L, e1, fun w' u l k' em r n => ⟨i, ?_, q w' _ l k' em (Rep.int _).repV trivial⟩⟩
      cases (show Rep Γ w' _ _ from r); rfl
    | _ => cases e2) (fun _ => rfl) (fun _ _ _ z => nomatch z)

/-! ### a subscript -/
theorem atK_ix {α β : Type} {xs : List α} {ys : List β} (hl : xs.length = ys.length) (i : Int) : atK xs i = ixN ys.length i := by
  unfold atK ixN
  rw [hl]
  by_cases h0 : 0 ≤ i
  · rw [if_pos h0, if_pos h0]
    by_cases h1 : i < ys.length
    · rw [if_pos h1, if_pos (by omega)]
    · rw [if_neg h1, if_neg (by omega)]
  · rw [if_neg h0, if_neg h0]
    by_cases h1 : 0 ≤ i + ys.length
    · rw [if_pos h1, if_pos (by omega)]
    · rw [if_neg h1, if_neg (by omega)]
theorem atM_at {xs : List MV} {vs : List V} {i : Int} {x : MV} (r : Reps Γ w xs vs) (h : atM xs i = some x) : ∃ v, atI vs i = some v ∧ Rep Γ w x v := by
  unfold atM at h
  unfold atI ixN
  rw [← r.length]
  by_cases h0 : 0 ≤ i
  · rw [if_pos h0] at h ⊢
    obtain ⟨v, h1, h2⟩ := r.get h
    have hl := (List.getElem?_eq_some_iff.mp h).1
    rw [if_pos (by omega)]
    exact ⟨v, h1, h2⟩
  · rw [if_neg h0] at h ⊢
    by_cases h1 : 0 ≤ i + xs.length
    · rw [if_pos h1] at h
      rw [if_pos (by omega)]
      obtain ⟨v, h1, h2⟩ := r.get h
      exact ⟨v, h1, h2⟩
    · rw [if_neg h1] at h; cases h
theorem keyT_dr (t : Bool) (M : Store) (y : MV) : keyT t (y.dr M) = keyT t y := by
  cases y with
  | ref n => show keyT t (match M.ob n with | some (.lst xs) => .lst .bw xs | some (.dct t kvs) => .dct .bw t kvs | _ => .ref n) = none; split <;> rfl
  | _ => rfl
theorem idxM_dr (M : Store) (x y : MV) : idxM x (y.dr M) = idxM x y := by
  cases x with
  | dct k t kvs => simp only [idxM, keyT_dr]
  | tup xs => cases y with
    | ref n => show idxM _ (match M.ob n with | some (.lst xs) => .lst .bw xs | some (.dct t kvs) => .dct .bw t kvs | _ => .ref n) = none; split <;> rfl
    | _ => rfl
  | lst k xs => cases y with
    | ref n => show idxM _ (match M.ob n with | some (.lst xs) => .lst .bw xs | some (.dct t kvs) => .dct .bw t kvs | _ => .ref n) = none; split <;> rfl
    | _ => rfl
  | _ => rfl
theorem ix_dict (g : Gd Γ X) : IxR X (fun x y H Q => ∃ a v, x = .ref a ∧ DGet H a y (some v) ∧ Q v H) := by
  intro value slice pins s σ H x y v u Q I rx ry h hs
  obtain ⟨a, v', ex, gt, q⟩ := h
  subst ex
  obtain rfl : v = Value.ref a := rx
  exact PyProof.Rows.tail_any (ops := [.ref a, u]) (dict_typeIs I gt) PySem.F.slot_dict_getitem.lookup (d_getItem g.u1 I gt ry fun w' s' I' r' => ⟨v', H, I', r', q⟩) hs
theorem ix_all (g : Gd Γ X) : IxR X (OP2 Γ fun a b _ => idxM a b) := by
  intro value slice pins s σ H a b va vb Q I ra rb ⟨w, x, y, z, hH, k, rx, ry, e, q⟩ hs
  subst hH
  have rx' := rx.read k
  have ry' := ry.read k
  revert e rx' ry'
  generalize x.dr w.M = x'
  generalize y.dr w.M = y'
  intro e rx' ry'
  cases x' with
  | dct kd t kvs =>
    simp only [idxM] at e
    split at e
    · rename_i kk ek
      obtain ⟨p, rfl, d⟩ := rx'
      obtain ⟨o, h1, h2⟩ := dget_read ry' ek d
      rw [e] at h2
      obtain ⟨u, rfl, ru⟩ := h2
      exact ix_dict g value slice pins s σ _ _ _ va vb Q I ra rb ⟨p, u, rfl, h1, done1 k ru q⟩ hs
    · cases e
  | tup xs =>
    cases y' with
    | int i =>
      obtain ⟨p, vs, rfl, h1, rs⟩ := Rep.seqT rx'
      obtain ⟨v, h2, rv⟩ := atM_at rs e
      rw [← g.K] at h1
      exact ix_tup value slice pins s σ _ _ _ va vb Q I ra rb ⟨p, vs, i, v, rfl, ry'.int, h1, h2, done1 k rv q⟩ hs
    | _ => cases e
  | lst kd xs =>
    cases y' with
    | int i =>
      obtain ⟨p, vs, rfl, _, h1, rs⟩ := rx'
      obtain ⟨v, h2, rv⟩ := atM_at rs e
      rw [← g.K] at h1
      exact ix_list value slice pins s σ _ _ _ va vb Q I ra rb ⟨p, vs, i, v, rfl, ry'.int, h1, h2, done1 k rv q⟩ hs
    | _ => cases e
  | _ => cases e
def fIdx (fa fb : EV) : EV := fun ρ M => (fa ρ M).bind fun x M1 => (fb ρ M1).bind fun y M2 => ofO (idxM (x.dr M2) y) M2
theorem s_idx (g : Gd Γ X) {fa fb : EV} {a b : Expr} {pos : Pos} (ha : Snd Γ X fa a) (hb : Snd Γ X fb b) (hs : PlainIx b) : Snd Γ X (fIdx fa fb) (.Subscript a b pos) :=
  .of_pe g ((pe_ix (ix_all g) ha.pe hb.pe hs).imp fun σ H Q h => rd2 (gg := fun a b _ => idxM a b) (by
    unfold fIdx at h
    simp only [idxM_dr]
    exact h)) (fun _ => rfl) (fun _ _ _ z => nomatch z)

/-! ### a slice -/
theorem sIx_eq (n d : Nat) (o : Option Int) : Q.sIx n d o = HT.sIx n d o := by cases o <;> rfl
theorem Reps.cut {xs : List MV} {vs : List V} (r : Reps Γ w xs vs) (lo hi : Option Int) : Reps Γ w (cutM xs lo hi) (cutV vs lo hi) := by
  unfold cutM cutV
  rw [← r.length, sIx_eq, sIx_eq]
  exact (r.drop _).take _
theorem cutM_whole {xs : List MV} {lo hi : Option Int} (h : HT.sIx xs.length 0 lo = 0 ∧ HT.sIx xs.length xs.length hi = xs.length) : cutM xs lo hi = xs := by
  unfold cutM
  rw [sIx_eq, sIx_eq, h.1, h.2]
  simp
abbrev EVo := Q.Env → Store → Res (Option Int)
def RDo (Γ : Gam) (ev : EVo) : TO := fun σ H Q => ∃ w ρ v M', w.H = H ∧ WOK Γ w ∧ LOK Γ w ρ σ ∧ ev ρ w.M = .ok v M' ∧
  ∀ w', LeE w w' → WOK Γ w' → w'.M = M' → Q v w'.H
theorem _root_.L2.PO.imp {X : Cx} {e : Option Expr} {t t' : TO} (h : PO X e t) (i : ∀ σ H Q, t' σ H Q → t σ H Q) : PO X e t' := ⟨fun pins s σ H Q I q => h.run pins s σ H Q I (i σ H Q q)⟩
def foNone : EVo := fun _ M => .ok none M
def foSome (f : EV) : EVo := fun ρ M => (f ρ M).bind fun x M1 => match x with
  | .int i => .ok (some i) M1
  | _ => .stuck
theorem s_oNone : PO X none (RDo Γ foNone) := po_none.imp fun σ H Q h => by
  obtain ⟨w, ρ, v, M', hH, k, L, e, q⟩ := h
  cases e
  rw [← hH]
  exact q w (LeE.refl w) k rfl
theorem s_oSome {f : EV} {e : Expr} (h : PE X e (RD Γ f)) : PO X (some e) (RDo Γ (foSome f)) := (po_some h).imp fun σ H Q h => by
  obtain ⟨w, ρ, v, M', hH, k, L, e, q⟩ := h
  obtain ⟨x, M1, e1, e2⟩ := bind_ok e
  cases x with
  | int i =>
    cases e2
    refine ⟨w, ρ, _, _, hH, k, L, e1, fun w' u l k' em r n => ⟨i, ?_, q w' l k' em⟩⟩
    cases (show Rep Γ w' _ _ from r); rfl
  | _ => cases e2
def rSlM (Γ : Gam) : V → Option Int → Option Int → Hp → VK → Prop := fun u lo hi H Q => ∃ w x z, w.H = H ∧ WOK Γ w ∧ RepV Γ w x u ∧ slM (x.dr w.M) lo hi = some z ∧
  ∀ w' t, LeE w w' → WOK Γ w' → w'.M = w.M → RepV Γ w' z t → New w.H z t → Q t w'.H
theorem sl_all (g : Gd Γ X) : SlR X (rSlM Γ) := by
  intro pins s σ H u v vl vu lo hi sl Q I rx hs pl pu ⟨w, x, z, hH, k, r, e, q⟩
  subst hH
  have r' := r.read k
  revert e r'
  generalize x.dr w.M = x'
  intro e r'
  cases x' with
  | tup xs =>
    cases e
    obtain ⟨p, vs, rfl, h1, rs⟩ := Rep.seqT r'
    rw [← g.K] at h1
    refine sl_tupA pins s σ _ _ v vl vu lo hi sl Q I rx hs pl pu ⟨p, vs, rfl, h1, fun hw => ?_, fun hw p hp => doneT k hp (rs.cut lo hi) q⟩
    rw [← rs.length] at hw
    rw [cutM_whole hw] at q
    exact done1 k (show Rep Γ w (.tup xs) (.ref p) from r') q
  | lst kd xs =>
    cases e
    obtain ⟨p, vs, rfl, _, h1, rs⟩ := r'
    rw [← g.K] at h1
    exact sl_list pins s σ _ _ v vl vu lo hi sl Q I rx hs pl pu ⟨p, vs, rfl, h1, fun p hp => doneL k hp (rs.cut lo hi) q⟩
  | _ => cases e
def fSl (fa : EV) (fl fh : EVo) : EV := fun ρ M => (fa ρ M).bind fun x M1 => (fl ρ M1).bind fun l M2 => (fh ρ M2).bind fun h M3 => ofO (slM (x.dr M3) l h) M3
theorem s_sl (g : Gd Γ X) {fa : EV} {fl fh : EVo} {a : Expr} {lo hi : Option Expr} {pos p2 : Pos} (ha : Snd Γ X fa a) (hl : PO X lo (RDo Γ fl)) (hh : PO X hi (RDo Γ fh)) : Snd Γ X (fSl fa fl fh) (.Subscript a (.Slice lo hi none p2) pos) :=
  .of_pe g ((pe_slice (sl_all g) ha.pe hl hh).imp fun σ H Q h => by
    obtain ⟨w, ρ, z, M', hH, k, L, e, q⟩ := h
    obtain ⟨x, M1, e1, e2⟩ := bind_ok e
    obtain ⟨l, M2, e3, e4⟩ := bind_ok e2
    obtain ⟨hv, M3, e5, e6⟩ := bind_ok e4
    obtain ⟨e6', rfl⟩ := ofO_ok e6
    refine ⟨w, ρ, x, _, hH, k, L, e1, fun w1 u l1 k1 em r1 n1 => ?_⟩
    subst em
    refine ⟨w1, ρ, l, _, rfl, k1, L.le l1 k, e3, fun w2 l2 k2 em => ?_⟩
    subst em
    refine ⟨w2, ρ, hv, _, rfl, k2, (L.le l1 k).le l2 k1, e5, fun w3 l3 k3 em => ?_⟩
    subst em
    have r3 := (r1.le l2 k1).le l3 k2
    exact ⟨w3, x, z, rfl, k3, r3, e6', fun w4 t l4 k4 em r n => q w4 t ((l1.trans l2).trans (l3.trans l4)) k4 em r (n.le ((l1.trans l2).trans l3))⟩) (fun _ => rfl) (fun _ _ _ z => nomatch z)

/-! ### in -/
theorem o_inAll (g : Gd Γ X) (op : CmpOp) (cop : COp) (ho : (op = .In ∧ cop = .inn) ∨ (op = .NotIn ∧ cop = .nin)) :
    OpR X (compareOp op) (OP2 Γ fun a b _ => (cmpM cop a b).map .bl) := by
  have hu : X.A.units + 65 < cLine := by have := g.hu; omega
  intro pins s σ H a b va vb Q I ra rb ⟨w, x, y, z, hH, k, rx, ry, e, q⟩
  by_cases hd : ∃ kd t kvs, y.dr w.M = .dct kd t kvs
  · obtain ⟨kd, t, kvs, hd⟩ := hd
    subst hH
    have ry' := ry.read k
    have rx' := rx.read k
    rw [hd] at ry' e
    obtain ⟨p, rfl, d⟩ := ry'
    obtain rfl : vb = Value.ref p := rb
    obtain ⟨b, e1, rfl⟩ := map_some e
    rcases ho with ⟨rfl, rfl⟩ | ⟨rfl, rfl⟩
    · simp only [cmpM] at e1
      split at e1
      · rename_i kk ek
        cases e1
        obtain ⟨o, h1, h2⟩ := dget_read rx' ek d
        refine d_in g.u1 I h1 ra fun s' I' => ⟨.bl o.isSome, w.H, I', rfl, ?_⟩
        have : o.isSome = (dget kvs kk).isSome := by
          split at h2
          · rename_i m em; obtain ⟨u, rfl, _⟩ := h2; rw [em]; rfl
          · rename_i em; rw [h2, em]; rfl
        rw [this]
        exact done1 k (.bl _) q
      · cases e1
    · simp only [cmpM] at e1
      split at e1
      · rename_i kk ek
        cases e1
        obtain ⟨o, h1, h2⟩ := dget_read rx' ek d
        refine d_notIn g.u1 I h1 ra fun s' I' => ⟨.bl (!o.isSome), w.H, I', rfl, ?_⟩
        have : o.isSome = (dget kvs kk).isSome := by
          split at h2
          · rename_i m em; obtain ⟨u, rfl, _⟩ := h2; rw [em]; rfl
          · rename_i em; rw [h2, em]; rfl
        rw [this]
        exact done1 k (.bl _) q
      · cases e1
  · refine o_in g.K hu op cop ho pins s σ H a b va vb Q I ra rb ⟨w, x, y, z, hH, k, rx, ry, ?_, q⟩
    generalize y.dr w.M = y' at e hd
    cases y' with
    | dct kd t kvs => exact absurd ⟨kd, t, kvs, rfl⟩ hd
    | _ => exact e
theorem s_in (g : Gd Γ X) {fa fb : EV} {a b : Expr} {op : CmpOp} {c : COp} {pos : Pos} (hc : (op = .In ∧ c = .inn) ∨ (op = .NotIn ∧ c = .nin)) (hm : behindInMarks op b = false)
    (ha : Snd Γ X fa a) (hb : Snd Γ X fb b) :
    Snd Γ X (fun ρ M => (fa ρ M).bind fun x M1 => (fb ρ M1).bind fun y M2 => ofO ((cmpM c (x.dr M2) (y.dr M2)).map .bl) M2) (.Compare a [op] [b] pos) :=
  s_cmpG g (o_inAll g op c hc) (fun x y M z h => let ⟨b, _, e⟩ := map_some h; ⟨b, e.symm⟩) hm ha hb

/-! ### a < b < c -/
def COp.int : COp → Bool
  | .lt => true | .le => true | .gt => true | .ge => true | .eq => true | _ => false
theorem cmpM_dr {c : COp} {x y : MV} {b : Bool} (M : Store) (h : cmpM c x y = some b) (hc : c.int = true) : cmpM c (x.dr M) (y.dr M) = some b := by
  have key : ∀ (v : MV) (n : Nat), v.shp n = true → v.dr M = v := fun v n hv => by
    cases v with
    | ref n => cases n <;> simp [MV.shp] at hv
    | _ => rfl
  cases c with
  | eq =>
    simp only [cmpM] at h
    rcases ite2_some h with ⟨hh, _⟩ | ⟨hh, _⟩
    · rw [Bool.and_eq_true] at hh
      rw [key x 60 hh.1, key y 60 hh.2]; exact h
    · cases x <;> first | (cases hh; done) | (cases y <;> first | (cases hh; done) | exact h)
  | lt => cases x <;> cases y <;> first | exact h | cases h
  | le => cases x <;> cases y <;> first | exact h | cases h
  | gt => cases x <;> cases y <;> first | exact h | cases h
  | ge => cases x <;> cases y <;> first | exact h | cases h
  | _ => cases hc
def opC : COp → CmpOp
  | .lt => .Lt | .le => .LtE | .gt => .Gt | .ge => .GtE | _ => .Eq
theorem o_ord (g : Gd Γ X) {c : COp} (hc : c.int = true) : OpR X (compareOp (opC c)) (OP2 Γ fun a b _ => (cmpM c a b).map .bl) := by
  have hu : X.A.units + 65 < cLine := by have := g.hu; omega
  cases c with
  | eq => exact o_eq g.K hu
  | lt => exact o_lt g.K hu
  | le => exact o_le
  | gt => exact o_gt
  | ge => exact o_ge
  | _ => cases hc
def fChain (o1 o2 : COp) (fa fb fc : EV) : EV := fun ρ M => (fa ρ M).bind fun x M1 => (fb ρ M1).bind fun y M2 => (ofO (cmpM o1 x y) M2).bind fun t M3 =>
      if t then (fc ρ M3).bind fun z M4 => ofO ((cmpM o2 y z).map .bl) M4 else .ok (.bl false) M3
theorem rd_chain {o1 o2 : COp} (h1 : o1.int = true) (h2 : o2.int = true) {fa fb fc : EV} {σ : St} {H : Hp} {Q : VK} (h : RD Γ (fChain o1 o2 fa fb fc) σ H Q) :
    tChain (OP2 Γ fun a b _ => (cmpM o1 a b).map .bl) (OP2 Γ fun a b _ => (cmpM o2 a b).map .bl) (RD Γ fa) (RD Γ fb) (RD Γ fc) σ H Q := by
  obtain ⟨w, ρ, z, M', hH, k, L, e, q⟩ := h
  obtain ⟨x, M1, e1, e2⟩ := bind_ok e
  obtain ⟨y, M2, e3, e4⟩ := bind_ok e2
  obtain ⟨t, M3, e5, e6⟩ := bind_ok e4
  obtain ⟨e5', rfl⟩ := ofO_ok e5
  refine ⟨w, ρ, x, M1, hH, k, L, e1, fun w1 u l1 k1 em r1 n1 => ?_⟩
  subst em
  refine ⟨w1, ρ, y, _, rfl, k1, L.le l1 k, e3, fun w2 u2 l2 k2 em r2 n2 => ?_⟩
  subst em
  refine ⟨w2, x, y, .bl t, rfl, k2, r1.le l2 k1, r2, by simp only [cmpM_dr _ e5' h1]; rfl, fun w3 t3 l3 k3 em r3 n3 => ⟨t, ?_, ?_⟩⟩
  · cases (show Rep Γ w3 _ _ from r3); rfl
  · cases t with
    | false =>
      rw [if_neg Bool.false_ne_true] at e6 ⊢
      cases e6
      exact q w3 _ ((l1.trans l2).trans l3) k3 em (Rep.bl _).repV trivial
    | true =>
      rw [if_pos rfl] at e6 ⊢
      obtain ⟨z', M4, e7, e8⟩ := bind_ok e6
      obtain ⟨e8', rfl⟩ := ofO_ok e8
      obtain ⟨b, e9, rfl⟩ := map_some e8'
      rw [← em] at e7
      refine ⟨w3, ρ, z', _, rfl, k3, ((L.le l1 k).le l2 k1).le l3 k2, e7, fun w4 u4 l4 k4 em4 r4 n4 => ?_⟩
      refine ⟨w4, y, z', .bl b, rfl, k4, (r2.le l3 k2).le l4 k3, r4, by simp only [cmpM_dr _ e9 h2]; rfl, fun w5 t5 l5 k5 em5 r5 n5 => ?_⟩
      exact q w5 t5 (((l1.trans l2).trans l3).trans (l4.trans l5)) k5 (em5.trans em4) r5 (n5.le (((l1.trans l2).trans l3).trans l4))
theorem s_chain (g : Gd Γ X) {o1 o2 : COp} (h1 : o1.int = true) (h2 : o2.int = true) {fa fb fc : EV} {a b c : Expr} {pos : Pos} (ha : Snd Γ X fa a) (hb : Snd Γ X fb b) (hc : Snd Γ X fc c) :
    Snd Γ X (fChain o1 o2 fa fb fc) (.Compare a [opC o1, opC o2] [b, c] pos) := by
  have hm : lastMarks [opC o1, opC o2] [b, c] = false := by
    show behindInMarks (opC o2) c = false
    have : (opC o2 == .In || opC o2 == .NotIn) = false := by cases o2 <;> rfl
    cases c <;> first | rfl | (simp only [behindInMarks, this]; simp)
  refine ⟨(pe_chain (o_ord g h1) (o_ord g h2) ha.pe hb.pe hc.pe hm).imp fun σ H Q h => rd_chain h1 h2 h, (pt_chain (o_ord g h1) (o_ord g h2) ha.pe hb.pe hc.pe hm).imp fun σ H Q h => ?_, fun _ _ _ z => nomatch z⟩
  obtain ⟨w, ρ, t, M', hH, k, L, e, q⟩ := h
  obtain ⟨z, e1, e2⟩ := vt_ok e
  refine rd_chain h1 h2 ⟨w, ρ, z, _, hH, k, L, e1, fun w' u l k' em r n => ?_⟩
  have hz : ∃ b, z = .bl b := by
    obtain ⟨x, M1, e1, e2⟩ := bind_ok e1
    obtain ⟨y, M2, e3, e4⟩ := bind_ok e2
    obtain ⟨t, M3, e5, e6⟩ := bind_ok e4
    cases t with
    | false => rw [if_neg Bool.false_ne_true] at e6; cases e6; exact ⟨_, rfl⟩
    | true =>
      rw [if_pos rfl] at e6
      obtain ⟨z', M4, e7, e8⟩ := bind_ok e6
      obtain ⟨e8', _⟩ := ofO_ok e8
      obtain ⟨b, e9, rfl⟩ := map_some e8'
      exact ⟨b, rfl⟩
  obtain ⟨b, rfl⟩ := hz
  cases e2
  exact ⟨_, (by cases (show Rep Γ w' _ _ from r); rfl), q w' l k' em⟩
end
end Q

/-! EvSl: slices with a step of 1 or -1. -/
namespace HT
open PySem PySem.Spec PyProof.Rows
section
variable {prog : Program} {w : World} {A : Around} {E : Value → Shared → Prop} {s : Shared}
theorem sliceApplied_rev {sl : Addr} {vs : Value} {n : Nat} {Q : Int × Int × Nat → Shared → Prop} (hs : s.heap.IsSliceOf sl .none .none vs) (ps : IsPart vs (some (-1)))
    (h : Q ((n : Int) - 1, -1, n) s) : wpAny (model prog w) A (Builtin.Slice.sliceApplied (.ref sl) (pure (n : Int))) Q E s := by
  obtain ⟨os, hos, hcs, hds⟩ := id hs
  unfold Builtin.Slice.sliceApplied Builtin.Slice.sliceFields
  refine wpAny_bind (wpAny_bind (wpAny_field hos hds (x := .none) rfl (wpAny_bind (wpAny_field hos hds (x := .none) rfl (wpAny_bind (wpAny_field hos hds (x := vs) rfl (wpAny_pure ?_)))))))
  refine wpAny_bind (slicePart_ ps ?_)
  show wpAny _ _ (if ((-1 : Int) == 0) = true then _ else _) _ _ s
  rw [if_neg (by decide)]
  refine wpAny_bind (slicePart_none (wpAny_bind (slicePart_none (wpAny_bind (wpAny_pure ?_)))))
  have e : Builtin.Slice.sliceAdjust none none (-1) (n : Int) = ((n : Int) - 1, -1) := rfl
  have e2 : Builtin.Slice.slicePlaces ((n : Int) - 1) (-1) (-1) = n := by
    unfold Builtin.Slice.slicePlaces
    have h1 : ¬ ((-1 : Int) > 0) := by decide
    rw [if_neg h1]
    by_cases h : (n : Int) - 1 > -1
    · rw [if_pos h, show (- -1 : Int) = 1 by decide, Int.ediv_one]; omega
    · rw [if_neg h]; omega
  show wpAny _ _ (match Builtin.Slice.sliceAdjust none none (-1) (n : Int) with | (lo, hi) => pure (lo, (-1 : Int), Builtin.Slice.slicePlaces lo hi (-1))) _ _ s
  rw [e]
  show wpAny _ _ (pure ((n : Int) - 1, (-1 : Int), Builtin.Slice.slicePlaces ((n : Int) - 1) (-1) (-1))) _ _ s
  rw [e2]
  exact wpAny_pure h
theorem pick_rev (xs : Array Value) : ((List.range xs.size).filterMap fun (m : Nat) => xs[(((xs.size : Int) - 1) + (m : Int) * (-1)).toNat]?).toArray = xs.toList.reverse.toArray := by
  have e := PySem.W.krv_pick xs
  unfold slicePick at e
  rw [PySem.W.krv_bounds] at e
  rw [← e]
  show _ = ((sliceRange ((xs.size : Int) - 1) (-1) (-1)).filterMap (xs[·]?)).toArray
  rw [PySem.W.krv_sliceRange, List.filterMap_map]
  congr 2
  funext m
  show xs[(((xs.size : Int) - 1) + (m : Int) * (-1)).toNat]? = xs[xs.size - 1 - m]?
  rw [show (((xs.size : Int) - 1) + (m : Int) * (-1)).toNat = xs.size - 1 - m by omega]
theorem getItem_tuple_rev {t sl : Addr} {items : Array Value} {vs : Value} {Q : Value → Shared → Prop} (ht : IsTup s.heap t items) (hs : s.heap.IsSliceOf sl .none .none vs) (ps : IsPart vs (some (-1)))
    (h : Q (.ref s.heap.objs.size) { s with heap := s.heap.push { cls := .type "tuple", data := .seq items.toList.reverse.toArray } })
    (hsz : items.size ≤ sizeLine) : wpAny (model prog w) A (getItem (.ref t) (.ref sl)) Q E s := by
  have htake : sizeOk (.seq items.toList.reverse.toArray) := by
    show items.toList.reverse.toArray.size ≤ sizeLine
    rw [List.size_toArray, List.length_reverse, Array.length_toList]
    exact hsz
  obtain ⟨os, hos, hcs, hds⟩ := id hs
  have hTs : s.TypeIs (.ref sl) "slice" := ⟨os, hos, hcs⟩
  unfold getItem
  try with_reducible refine wpAny_holding ?_
  first | refine wpAny_bind (wpAny_pure ?_) | skip
  refine wpAny_bind (wpAny_sequenceKey ht.typeIs (by decide) ?_)
  refine wpAny_bind (wpAny_callSpecial?_slot (name := Str.ofString "__getitem__") ht.typeIs PyProof.Rows.slot_tuple_getitem
    (wpAny_call_entry PyProof.Rows.slot_tuple_getitem ht.typeIs entry_tuple_getitem ?_ (args_tuple_getitem _ _)))
  show wpAny _ _ (Builtin.Tuple.tupleItemsOf (.ref t) >>= _) _ _ s
  refine wpAny_bind (tupleItemsOf_ ht ?_)
  refine wpAny_bind (wpAny_typeOf hTs ?_)
  rw [if_pos (by decide)]
  refine wpAny_bind (sliceApplied_rev hs ps ?_)
  have hno : ¬ ((((items.size : Int) - 1) == 0 && (-1 : Int) == 1 && items.size == items.size) = true) := by
    rw [show ((-1 : Int) == 1) = false by decide, Bool.and_false, Bool.false_and]
    exact Bool.false_ne_true
  show wpAny _ _ (if (((items.size : Int) - 1) == 0 && (-1 : Int) == 1 && items.size == items.size) = true then _ else _) _ _ s
  rw [if_neg hno, pick_rev]
  first
    | exact wpAny_bind (m := Builtin.Tuple.tupleExact _) (wpAny_newObj_type (wpAny_pure ⟨_, rfl, wpAny_pure h⟩) htake)
    | exact wpAny_bind (m := Builtin.Tuple.tupleExact _) (wpAny_newObj_type (wpAny_bind (wpAny_pure (wpAny_pure ⟨_, rfl, wpAny_pure h⟩))) htake)
    | exact wpAny_bind (wpAny_bind (m := Builtin.Tuple.tupleExact _) (wpAny_newObj_type (wpAny_pure (wpAny_pure ⟨_, rfl, wpAny_pure h⟩)) htake))
    | exact wpAny_bind (wpAny_bind (m := Builtin.Tuple.tupleExact _) (wpAny_newObj_type (wpAny_pure ⟨_, rfl, wpAny_pure h⟩) htake))
end
end HT
namespace Q
open PySem L2 PyProof.Rows
section
variable {Γ : Gam} {X : Cx} {w w0 : Wd}
def rStp (K : PySem.W.Frag) : R2 := fun x y H Q => (∃ a xs, x = .ref a ∧ SqL K H a xs ∧ ((y = .int 1 ∧ ∀ p, H p = none → Q (.ref p) (upd H p (.lst xs))) ∨ (y = .int (-1) ∧ ∀ p, H p = none → Q (.ref p) (upd H p (.lst xs.reverse))))) ∨
  (∃ a xs, x = .ref a ∧ SqT K H a xs ∧ y = .int (-1) ∧ ∀ p, H p = none → Q (.ref p) (upd H p (.tup xs.reverse)))
theorem pick_1 (items : Array Value) : slicePick items none none (some 1) = items.toList.toArray := by
  have := slicePick_cut items.toList none none
  have e : slicePick items none none (some 1) = slicePick items.toList.toArray none none none := by rw [Array.toArray_toList]; rfl
  rw [e, this]
  simp [HT.sIx]
  rw [List.take_of_length_le (by rw [Array.length_toList]; exact Nat.le_refl _), Array.toArray_toList]
theorem pe_stp {e st : Expr} {te ts : TE} {p3 pos : Pos} (he : PE X e te) (hst : PE X st ts) : PE X (.Subscript e (.Slice none none (some st) p3) pos) (tOp (rStp X.K) te ts) := by
  refine ⟨fun pins s σ H Q I h => ?_⟩
  refine Subscript_ (thn (he.run pins s σ H _ I h) fun v s1 ⟨x, H1, I1, r1, q1⟩ => ?_)
  refine wpAny_Slice (thn (po_none.run pins s1 σ H1 (fun o H2 => o = none ∧ H2 = H1) I1 ⟨rfl, rfl⟩) fun vl s2 ⟨l, H2, I2, pl, el, e2⟩ => ?_)
  subst el e2
  refine thn (po_none.run pins s2 σ H2 (fun o H3 => o = none ∧ H3 = H2) I2 ⟨rfl, rfl⟩) fun vu s3 ⟨u, H3, I3, pu, eu, e3⟩ => ?_
  subst eu e3
  refine thn (hst.run pins s3 σ H3 _ I3 q1) fun vs s4 ⟨y, H4, I4, ry, q2⟩ => ?_
  cases pl
  cases pu
  have I5 : Inv X pins σ H4 { s4 with heap := s4.heap.push { cls := .type "slice", data := .fields #[.none, .none, vs] } } := I4.kept (t' := s4.toks) fun b ob q => Heap.get?_push_of_some _ q
  show wpAny (model X.prog X.w) X.A (subscriptTail e (.Slice none none (some st) p3) v (.ref s4.heap.objs.size)) (EP X pins σ Q) X.xe { s4 with heap := s4.heap.push { cls := .type "slice", data := .fields #[.none, .none, vs] } }
  rcases q2 with ⟨a, xs, rfl, hx, q⟩ | ⟨a, xs, rfl, hx, rfl, q⟩
  · cases r1
    obtain ⟨its, r, ht, hz⟩ := I5.list hx
    have hlen := r.length
    refine tail_any (ops := [.ref a, .ref s4.heap.objs.size]) ht.isList.typeIs (PySem.slot_list_getitem.lookup) ?_ (by with_unfolding_all rfl)
    rcases q with ⟨rfl, q⟩ | ⟨rfl, q⟩
    · obtain ⟨t, rfl⟩ := ry
      refine wpAny_getItem_list_slice ht.isList (Heap.IsSliceOf.new _ .none .none _) .none .none (.int 1 t) (by decide) ?_ (by rw [List.size_toArray]; omega)
      rw [pick_1]
      refine ⟨.ref _, _, I5.laid (t' := s4.toks) (o := .lst xs) (fun b ob q => Heap.get?_push_of_some _ q) (Nat.le_refl _) ?_, rfl, q _ (I5.hok.fresh (Nat.le_refl _))⟩
      exact ⟨hz, _, 0, r, Heap.get?_push_size _ rfl⟩
    · obtain ⟨t, rfl⟩ := ry
      refine wpAny_getItem_list_slice ht.isList (Heap.IsSliceOf.new _ .none .none _) .none .none (.int (-1) t) (by decide) ?_ (by rw [List.size_toArray]; omega)
      rw [PySem.W.krv_pick]
      refine ⟨.ref _, _, I5.laid (t' := s4.toks) (o := .lst xs.reverse) (fun b ob q => Heap.get?_push_of_some _ q) (Nat.le_refl _) ?_, rfl, q _ (I5.hok.fresh (Nat.le_refl _))⟩
      exact ⟨by rw [List.length_reverse]; exact hz, _, 0, r.reverse, Heap.get?_push_size _ rfl⟩
  · cases r1
    obtain ⟨t, rfl⟩ := ry
    obtain ⟨its, r, ht, hz⟩ := I5.tuple hx
    have hlen := r.length
    refine tail_any (ops := [.ref a, .ref s4.heap.objs.size]) ht.typeIs (PyProof.Rows.slot_tuple_getitem.lookup) ?_ (by with_unfolding_all rfl)
    refine HT.getItem_tuple_rev ht (Heap.IsSliceOf.new _ .none .none _) (.int (-1) t) ?_ (by rw [List.size_toArray]; omega)
    refine ⟨.ref _, _, I5.laid (t' := s4.toks) (o := .tup xs.reverse) (fun b ob q => Heap.get?_push_of_some _ q) (Nat.le_refl _) ?_, rfl, q _ (I5.hok.fresh (Nat.le_refl _))⟩
    exact ⟨by rw [List.length_reverse]; exact hz, _, r.reverse, IsTup.new _ _⟩
theorem Reps.rev {xs : List MV} {vs : List V} (r : Reps Γ w xs vs) : Reps Γ w xs.reverse vs.reverse := by
  induction xs generalizing vs with
  | nil => cases r; exact .nil
  | cons x xs ih =>
    cases r with
    | cons a t =>
      rw [List.reverse_cons, List.reverse_cons]
      exact (ih t).append (.cons a .nil)
def fStp (fa fs : EV) : EV := fun ρ M => (fa ρ M).bind fun x M1 => (fs ρ M1).bind fun y M2 => ofO (stpM (x.dr M2) (y.dr M2)) M2
theorem op_stp (g : Gd Γ X) {u v : V} {H : Hp} {Q : VK} (h : OP2 Γ (fun a b _ => stpM a b) u v H Q) : rStp X.K u v H Q := by
  obtain ⟨w, x, y, z, hH, k, rx, ry, e, q⟩ := h
  subst hH
  have rx' := rx.read k
  have ry' := ry.read k
  revert e rx' ry'
  generalize x.dr w.M = x'
  generalize y.dr w.M = y'
  intro e rx' ry'
  cases x' with
  | tup xs =>
    cases y' with
    | int i =>
      obtain ⟨rfl, rfl⟩ := ite_some e
      obtain ⟨p, vs, rfl, h1, rs⟩ := Rep.seqT rx'
      rw [← g.K] at h1
      exact .inr ⟨p, vs, rfl, h1, ry'.int, fun p hp => doneT k hp rs.rev q⟩
    | _ => cases e
  | lst kd xs =>
    cases y' with
    | int i =>
      obtain ⟨p, vs, rfl, _, h1, rs⟩ := rx'
      rw [← g.K] at h1
      have e' : (if i = 1 then some (MV.lst .nw xs) else if i = -1 then some (.lst .nw xs.reverse) else none) = some z := e
      by_cases h : i = 1
      · rw [if_pos h] at e'
        cases e'
        subst h
        exact .inl ⟨p, vs, rfl, h1, .inl ⟨ry'.int, fun p hp => doneL k hp rs q⟩⟩
      · rw [if_neg h] at e'
        obtain ⟨rfl, rfl⟩ := ite_some e'
        exact .inl ⟨p, vs, rfl, h1, .inr ⟨ry'.int, fun p hp => doneL k hp rs.rev q⟩⟩
    | _ => cases e
  | _ => cases e
theorem s_stp (g : Gd Γ X) {fa fs : EV} {a st : Expr} {p3 pos : Pos} (ha : Snd Γ X fa a) (hs : Snd Γ X fs st) : Snd Γ X (fStp fa fs) (.Subscript a (.Slice none none (some st) p3) pos) :=
  .of_pe g ((pe_stp ha.pe hs.pe).imp fun σ H Q h => by
    obtain ⟨w, ρ, x, M', hH, k, L, e, q⟩ := rd2 (gg := fun a b _ => stpM a b) h
    refine ⟨w, ρ, x, M', hH, k, L, e, fun w1 u l1 k1 em r1 n1 => ?_⟩
    obtain ⟨w2, ρ2, y, M2, hH2, k2, L2', e2, q2⟩ := q w1 u l1 k1 em r1 n1
    exact ⟨w2, ρ2, y, M2, hH2, k2, L2', e2, fun w3 u3 l3 k3 em3 r3 n3 => op_stp g (q2 w3 u3 l3 k3 em3 r3 n3)⟩) (fun _ => rfl) (fun _ _ _ z => nomatch z)
end
end Q

/-! EvFt: sum, max, min of a tuple of ints. -/
namespace Q
open PySem L2
theorem tup_walk {X : Cx} {pins : List (Addr × Obj)} {s : Shared} {σ : St} {H : Hp} {a : Addr} {its : List Value} (hc : X.calm = true) (I : Inv X pins σ H s) (p : s.heap.IsTuple a its.toArray) :
    (∀ (h' : Heap) (tk : Nat), (∀ (b : Addr) (o : Obj), ¬ b ∈ [s.heap.objs.size] → (s.heap.push { cls := .type "tuple_iterator", data := .fields #[.ref a, .int 0 0] }).get? b = some o → h'.get? b = some o) → Inv X pins σ H { s with heap := h', toks := tk }) ∧
    Walks X.prog X.w X.A.in1 s.heap.objs.size [s.heap.objs.size, a] [s.heap.objs.size] its.toArray.size (fun i v => its.toArray[i]? = some v) (fun i h => h.IsTupleIter s.heap.objs.size a i ∧ h.IsTuple a its.toArray) ∧
    ((s.heap.push { cls := .type "tuple_iterator", data := .fields #[.ref a, .int 0 0] }).IsTupleIter s.heap.objs.size a 0 ∧ (s.heap.push { cls := .type "tuple_iterator", data := .fields #[.ref a, .int 0 0] }).IsTuple a its.toArray) ∧
    ∀ b ∈ [s.heap.objs.size, a], b < (s.heap.push { cls := .type "tuple_iterator", data := .fields #[.ref a, .int 0 0] }).objs.size := by
  obtain ⟨o, ho, hp⟩ := p
  have hlt : a < s.heap.objs.size := Heap.lt_size ho
  have hz : (s.heap.push { cls := .type "tuple_iterator", data := .fields #[.ref a, .int 0 0] }).objs.size = s.heap.objs.size + 1 := Heap.size_push ..
  have hd1 : X.A.in1.handled = none := I.ok.hd hc
  refine ⟨fun h' tk hk => I.kept (t' := tk) fun b u hb => ?_, Walks.tuple hd1 _ _ (Nat.ne_of_lt hlt) _, ⟨⟨_, Heap.get?_push_size _ rfl, rfl, rfl⟩, o, Heap.get?_push_of_some _ ho, hp⟩, fun b hb => ?_⟩
  · have hbl : b < s.heap.objs.size := Heap.lt_size hb
    exact hk b u (fun z => by rw [List.mem_singleton] at z; exact Nat.lt_irrefl _ (z ▸ hbl)) (Heap.get?_push_of_some _ hb)
  · rw [hz]
    simp only [List.mem_cons, List.not_mem_nil, or_false] at hb
    rcases hb with rfl | rfl
    · exact Nat.lt_succ_self _
    · exact Nat.lt_succ_of_lt hlt
theorem vals_int_at {ns : List Int} {its : List Value} (rv : Vals (ns.map V.int) its) {i : Nat} {v : Value} (h : its.toArray[i]? = some v) : ∃ t, v = Value.int (ns.getD i 0) t := by
  have h' : its[i]? = some v := by simpa using h
  have hi := (List.getElem?_eq_some_iff.mp h').1
  have hl := rv.length
  rw [List.length_map] at hl
  have hn : i < ns.length := by omega
  obtain ⟨u, hu, ru⟩ := rv.get (i := i) (x := V.int ns[i]) (by rw [List.getElem?_map, List.getElem?_eq_getElem hn]; rfl)
  rw [h'] at hu
  cases hu
  obtain ⟨t, rfl⟩ := ru
  exact ⟨t, by rw [List.getD_eq_getElem?_getD, List.getElem?_eq_getElem hn]; rfl⟩
def tupD (js : List Int) : PyData := .tuple (js.map .int)
theorem listLt_int : ∀ xs ys : List Int, PySem.W.listLt xs ys = lexLt xs ys
  | [], [] => rfl
  | [], _ :: _ => rfl
  | _ :: _, [] => rfl
  | x :: xs, y :: ys => by
    show (if x = y then PySem.W.listLt xs ys else decide (x < y)) = (if x = y then lexLt xs ys else decide (x < y))
    rw [listLt_int xs ys]
theorem minOf_tup : ∀ (ts : List (List Int)) (t : List Int), PySem.W.minOf (⟨t⟩ : PySem.W.Tup Int) (ts.map PySem.W.Tup.mk) = ⟨minTs t ts⟩
  | [], _ => rfl
  | u :: ts, t => by
    have ih := minOf_tup ts (if lexLt u t = true then u else t)
    unfold PySem.W.minOf minTs at *
    rw [List.map_cons, List.foldl_cons, List.foldl_cons, ← ih]
    have e : (PySem.W.DatumOrd.lt (⟨u⟩ : PySem.W.Tup Int) ⟨t⟩) = lexLt u t := listLt_int u t
    rw [e]
    cases lexLt u t <;> rfl
theorem canLay_ints (js : List Int) : (tupD js).canLay0 = true := by
  show PyData.canLayAll0 (js.map PyData.int) = true
  induction js with
  | nil => rfl
  | cons j js ih => exact ih
theorem map_int_inj : ∀ {xs ys : List Int}, xs.map PyData.int = ys.map PyData.int → xs = ys
  | [], [], _ => rfl
  | [], _ :: _, h => by cases h
  | _ :: _, [], h => by cases h
  | x :: xs, y :: ys, h => by
    rw [List.map_cons, List.map_cons] at h
    injection h with h1 h2
    injection h1 with h1
    rw [h1, map_int_inj h2]
def rMinTs : PySem.W.Frag → List V → Hp → VK → Prop := fun K vs H Q => ∃ (a : Addr) (us : List V) (t : List Int) (ts : List (List Int)), vs = [V.ref a] ∧ SqL K H a us ∧ DpAll K H us ((t :: ts).map tupD) ∧ ∀ (i : Nat) (u : V), us[i]? = some u → (t :: ts)[i]? = some (minTs t ts) → Q u H
theorem cr_minTs {X : Cx} (hc : X.calm = true) (hu : X.A.units + 65 < cLine) : CallR X (.builtin "min") (rMinTs X.K) := fun pins s σ H xs vs Q I r h => by
  obtain ⟨a, us, t, ts, rfl, hs, hd, q⟩ := h
  obtain ⟨its, rv, hl, _⟩ := I.list hs
  rw [Vals.ref1 r]
  obtain ⟨as, hr⟩ := Dp.readsAll I _ us its hd rv
  have HA : PySem.W.HoldAll s.heap its ((⟨t⟩ : PySem.W.Tup Int) :: ts.map PySem.W.Tup.mk) := ⟨as, by
    have e : (((⟨t⟩ : PySem.W.Tup Int) :: ts.map PySem.W.Tup.mk).map PySem.W.Datum.toD) = (t :: ts).map tupD := by
      rw [List.map_cons, List.map_map, List.map_cons]; rfl
    rw [e]; exact hr⟩
  have hul : us.length = its.length := rv.length
  refine PySem.W.min_list_datum (vs := its.toArray) (I.ok.hd hc) hl.isList HA (by show X.A.units + 1 + 1 < cLine; omega) fun i v h' tk hi hH hk => ?_
  have hi' : its[i]? = some v := by simpa using hi
  obtain ⟨bs, hR⟩ := hH
  rw [minOf_tup] at hR
  have hlt : i < us.length := by rw [hul]; exact (List.getElem?_eq_some_iff.mp hi').1
  obtain ⟨u, hu', ru⟩ := rv.get (i := i) (x := us[i]) (List.getElem?_eq_getElem hlt)
  rw [hi'] at hu'
  cases hu'
  have hrl : its.length = ((t :: ts).map tupD).length := SeqAt.ReadsAll.length _ _ _ hr
  rw [List.length_map] at hrl
  have hlt2 : i < (t :: ts).length := by omega
  obtain ⟨cs, hR2, _⟩ := PySem.W.readsAll_at hr i v hi'
  have e1 : ((t :: ts).map tupD).getD i .none = tupD (t :: ts)[i] := by
    rw [List.getD_eq_getElem?_getD, List.getElem?_map, List.getElem?_eq_getElem hlt2]; rfl
  rw [e1] at hR2
  have e2 := SeqAt.Reads.unique (tupD (t :: ts)[i]) (tupD (minTs t ts)) v cs bs (canLay_ints _) (PySem.W.reads_keeps hk hR2) hR
  injection e2 with e2
  have e3 := map_int_inj e2
  exact ⟨us[i], H, I.kept hk, ru, q i _ (List.getElem?_eq_getElem hlt) (by rw [List.getElem?_eq_getElem hlt2, e3])⟩
def rSumT : PySem.W.Frag → List V → Hp → VK → Prop := fun K vs H Q => ∃ a ns, vs = [V.ref a] ∧ SqT K H a (List.map V.int ns) ∧ Q (V.int ns.sum) H
theorem cr_sumT {X : Cx} (hc : X.calm = true) : CallR X (.builtin "sum") (rSumT X.K) := fun pins s σ H xs us Q I r h => by
  obtain ⟨a, ns, rfl, hq, q⟩ := h
  cases r with
  | cons r rr =>
    cases rr
    cases r
    obtain ⟨its, rv, p, hz⟩ := I.tuple hq
    obtain ⟨k1, k2, k3, k4⟩ := tup_walk hc I (show s.heap.IsTuple a its.toArray from p)
    refine call_sum_walkG (wpAny_pyIter_tuple (show s.heap.IsTuple a its.toArray from p) ⟨_, _, _, _, _, _, fun i => ns.getD i 0, rfl, k2, k3, k4, fun i v hv => vals_int_at rv hv, fun h' tk t' hk => ?_⟩)
    refine ⟨.int ns.sum, H, k1 h' tk hk, ⟨t', ?_⟩, q⟩
    rw [PyProof.Rows.preSum_getD, List.take_of_length_le]
    have hl := rv.length
    rw [List.length_map] at hl
    simp [← hl]
def rMaxT : PySem.W.Frag → List V → Hp → VK → Prop := fun K vs H Q => ∃ a ns, vs = [V.ref a] ∧ SqT K H a (List.map V.int ns) ∧ 0 < ns.length ∧ ∀ m : Int, m ∈ ns → (∀ y : Int, y ∈ ns → y ≤ m) → Q (V.int m) H
def rMinT : PySem.W.Frag → List V → Hp → VK → Prop := fun K vs H Q => ∃ a ns, vs = [V.ref a] ∧ SqT K H a (List.map V.int ns) ∧ 0 < ns.length ∧ ∀ m : Int, m ∈ ns → (∀ y : Int, y ∈ ns → m ≤ y) → Q (V.int m) H
theorem getD_mem {ns : List Int} {k : Nat} (h : k < ns.length) : ns.getD k 0 ∈ ns := by
  rw [List.getD_eq_getElem?_getD, List.getElem?_eq_getElem h]
  exact List.getElem_mem h
theorem mem_getD {ns : List Int} {y : Int} (h : y ∈ ns) : ∃ k, k < ns.length ∧ ns.getD k 0 = y := by
  obtain ⟨k, hk, e⟩ := List.mem_iff_getElem.mp h
  exact ⟨k, hk, by rw [List.getD_eq_getElem?_getD, List.getElem?_eq_getElem hk]; exact e⟩
theorem cr_maxT {X : Cx} (hc : X.calm = true) : CallR X (.builtin "max") (rMaxT X.K) := fun pins s σ H xs us Q I r h => by
  obtain ⟨a, ns, rfl, hq, hn, q⟩ := h
  cases r with
  | cons r rr =>
    cases rr
    cases r
    obtain ⟨its, rv, p, hz⟩ := I.tuple hq
    have hl := rv.length
    rw [List.length_map] at hl
    obtain ⟨k1, k2, k3, k4⟩ := tup_walk hc I (show s.heap.IsTuple a its.toArray from p)
    have hb := argBest_gt (fun i => ns.getD i 0) (ns.length - 1)
    refine call_max_walk (wpAny_pyIter_tuple (show s.heap.IsTuple a its.toArray from p) ⟨_, _, _, _, _, _, _, rfl, k2, k3, k4, by simp; omega, CmpOf.ints_gt (fun i => ns.getD i 0) fun i v hv => vals_int_at rv hv, fun v h' tk hv hk => ?_⟩)
    have hv' : its.toArray[argBest (fun i j => decide (ns.getD i 0 > ns.getD j 0)) (ns.length - 1)]? = some v := by
      have e : its.toArray.size = ns.length := by simp [hl]
      rw [e] at hv; exact hv
    obtain ⟨t, rfl⟩ := vals_int_at rv hv'
    refine ⟨.int _, H, k1 h' tk hk, ⟨t, rfl⟩, q _ (getD_mem (by have := hb.1; omega)) fun y hy => ?_⟩
    obtain ⟨k, hk, rfl⟩ := mem_getD hy
    exact hb.2 k (by omega)
theorem cr_minT {X : Cx} (hc : X.calm = true) : CallR X (.builtin "min") (rMinT X.K) := fun pins s σ H xs us Q I r h => by
  obtain ⟨a, ns, rfl, hq, hn, q⟩ := h
  cases r with
  | cons r rr =>
    cases rr
    cases r
    obtain ⟨its, rv, p, hz⟩ := I.tuple hq
    have hl := rv.length
    rw [List.length_map] at hl
    obtain ⟨k1, k2, k3, k4⟩ := tup_walk hc I (show s.heap.IsTuple a its.toArray from p)
    have hb := argBest_lt (fun i => ns.getD i 0) (ns.length - 1)
    refine call_min_walk (wpAny_pyIter_tuple (show s.heap.IsTuple a its.toArray from p) ⟨_, _, _, _, _, _, _, rfl, k2, k3, k4, by simp; omega, CmpOf.ints_lt (fun i => ns.getD i 0) fun i v hv => vals_int_at rv hv, fun v h' tk hv hk => ?_⟩)
    have hv' : its.toArray[argBest (fun i j => decide (ns.getD i 0 < ns.getD j 0)) (ns.length - 1)]? = some v := by
      have e : its.toArray.size = ns.length := by simp [hl]
      rw [e] at hv; exact hv
    obtain ⟨t, rfl⟩ := vals_int_at rv hv'
    refine ⟨.int _, H, k1 h' tk hk, ⟨t, rfl⟩, q _ (getD_mem (by have := hb.1; omega)) fun y hy => ?_⟩
    obtain ⟨k, hk, rfl⟩ := mem_getD hy
    exact hb.2 k (by omega)
set_option maxHeartbeats 400000 in
theorem collect_tup {prog : Program} {w : World} {A : Around} {E : Value → Shared → Prop} {s : Shared} {t : Addr} {vs : List Value} {Q : List Value → Shared → Prop} (h : s.heap.IsTuple t vs.toArray) (hz : vs.length ≤ sizeLine)
   (q : Q vs { s with heap := (s.heap.push (PyProof.Rows.seqObj "list" #[] 0)).update s.heap.objs.size (Obj.mapSeq fun x => x ++ vs.toArray) }) : wpAny (model prog w) A (collect (.ref t)) Q E s := by
  obtain ⟨⟨c, dct, dat, sl⟩, ho, hc, ep, hd⟩ := h
  obtain rfl : c = _ := hc
  obtain rfl : dat = _ := hd
  have h2 : (s.heap.push (PyProof.Rows.seqObj "list" #[] 0)).get? t = some ⟨.type "tuple", dct, .seq vs.toArray ep, sl⟩ := Heap.get?_push_of_some _ ho
  have h3 : (s.heap.push (PyProof.Rows.seqObj "list" #[] 0)).get? s.heap.objs.size = some (PyProof.Rows.seqObj "list" #[] 0) := Heap.get?_push_size _ rfl
  have hp : (Obj.mapSeq (fun x => x ++ vs.toArray) (PyProof.Rows.seqObj "list" #[] 0)).data.pastItsLine = none := by
    exact pastItsLine_seq (by simp; exact Nat.le_succ_of_le hz)
  have h4 : ((s.heap.push (PyProof.Rows.seqObj "list" #[] 0)).update s.heap.objs.size (Obj.mapSeq fun x => x ++ vs.toArray)).get? s.heap.objs.size = some (Obj.mapSeq (fun x => x ++ vs.toArray) (PyProof.Rows.seqObj "list" #[] 0)) := by
    exact Heap.get?_update_self _ h3 rfl
  unfold collect
  wp_walk
  refine codeAny_builtin PySem.F.entry_proto_collect ?_
  unfold Builtin.«proto.collect»
  wp_walk
  refine ⟨plainId_quiet PySem.F.plain_list_iadd _, codeAny_builtin PySem.F.entry_list_iadd ?_⟩
  unfold Builtin.«list.__iadd__»
  wp_walk
  rw [hp]
  wp_walk
  have e : ((fun x => x ++ vs.toArray) (#[] : Array Value)).toList = vs := by simp
  rw [e]
  exact q

set_option maxHeartbeats 400000 in
theorem sorted_tup {prog : Program} {w : World} {A : Around} {E : Value → Shared → Prop} {s : Shared} {t : Addr} {vs : List Value} {ns : List Int} {Q : Value → Shared → Prop} (h : s.heap.IsTuple t vs.toArray) (hi : PyProof.Rows.IntsAre vs ns) (hz : vs.length < 64)
   (q : ∀ (out : Array Value) (ns' : List Int), PyProof.Rows.IntsAre out.toList ns' → ns'.Perm ns → List.Pairwise (fun x1 x2 => x1 ≤ x2) ns' → Q (.ref (s.heap.objs.size + 1)) { s with heap := PyProof.Rows.sortedAll s.heap vs out }) : wpAny (model prog w) A (PySem.call (.builtin "sorted") [.ref t]) Q E s := by
  have hz' : vs.length ≤ sizeLine := Nat.le_trans (Nat.le_of_lt hz) (by decide)
  refine PySem.Calls.call_function_entry (id := "sorted") rfl PyProof.Rows.plain_sorted PyProof.Rows.entry_sorted (PyProof.Rows.args_sorted1 _) ?_
  unfold Builtin.sorted
  refine wpAny_bind (wpAny_pure ?_)
  refine wpAny_bind (collect_tup h hz' ?_)
  refine wpAny_bind (wpAny_newList ?_ hz')
  have hsz : ((s.heap.push (PyProof.Rows.seqObj "list" #[] 0)).update s.heap.objs.size (Obj.mapSeq fun x => x ++ vs.toArray)).objs.size = s.heap.objs.size + 1 := by
    rw [Heap.size_update, Heap.size_push]
  have hg : (((s.heap.push (PyProof.Rows.seqObj "list" #[] 0)).update s.heap.objs.size (Obj.mapSeq fun x => x ++ vs.toArray)).push { cls := .type "list", data := .seq vs.toArray }).get? (s.heap.objs.size + 1) = some (PyProof.Rows.seqObj "list" vs.toArray 0) := by
    rw [← hsz]; exact Heap.get?_push_size _ rfl
  show wpAny _ _ (holding [_] (PySem.call (.builtin "list.sort") [_]) >>= _) _ _ _
  rw [hsz]
  refine wpAny_bind (wpAny_holding (wpAny_call_entry PySem.F.slot_list_sort ⟨_, hg, rfl⟩ PyProof.Rows.entry_list_sort ?_ (PySem.F.args_list_sort_1 _)))
  refine PyProof.Rows.list_sort_tree hg hi hz fun out ns' h1 h2 h3 => ?_
  exact ⟨_, rfl, wpAny_pure ⟨_, rfl, q out ns' h1 h2 h3⟩⟩
theorem ints_are : ∀ {ns : List Int} {its : List Value}, Vals (ns.map V.int) its → PyProof.Rows.IntsAre its ns
  | [], _, .nil => .nil
  | n :: ns, _, .cons r t => by
    obtain ⟨k, rfl⟩ := r
    exact .cons n k (ints_are t)
def rSortedT : PySem.W.Frag → List V → Hp → VK → Prop := fun K vs H Q => ∃ a ns, vs = [V.ref a] ∧ SqT K H a (List.map V.int ns) ∧ ns.length < 64 ∧ ∀ (ns' : List Int) (p : Addr), ns'.Perm ns → List.Pairwise (fun x1 x2 => x1 ≤ x2) ns' → H p = none → Q (V.ref p) (upd H p (HO.lst (List.map V.int ns')))
theorem cr_sortedT {X : Cx} : CallR X (.builtin "sorted") (rSortedT X.K) := fun pins s σ H xs us Q I r h => by
  obtain ⟨a, ns, rfl, hq, hn, q⟩ := h
  cases r with
  | cons r rr =>
    cases rr
    cases r
    obtain ⟨its, rv, p, hz⟩ := I.tuple hq
    have hl := rv.length
    rw [List.length_map] at hl
    refine sorted_tup (show s.heap.IsTuple a its.toArray from p) (ints_are rv) (by omega) fun out ns' h1 h2 h3 => ?_
    obtain ⟨e, he⟩ := PyProof.Rows.sortedAll_at s.heap its out
    have hfr : H (s.heap.objs.size + 1) = none := I.hok.fresh (Nat.le_succ _)
    have new : ObjOk X.prog X.w (upd H (s.heap.objs.size + 1) (.lst (ns'.map V.int))) (PyProof.Rows.sortedAll s.heap its out) (s.heap.objs.size + 1) (.lst (ns'.map V.int)) :=
      ⟨by rw [List.length_map, h2.length_eq]; exact Nat.le_trans (Nat.le_of_lt hn) (by decide), out.toList, e, vals_ints h1, he⟩
    exact ⟨.ref (s.heap.objs.size + 1), _, I.laid (t' := s.toks) (fun b u hb => PyProof.Rows.sortedAll_old hb) (Nat.le_succ _) new, rfl, q ns' _ h2 h3 hfr⟩
end Q

/-! EvG: built-in functions, isinstance, fields, dict displays. -/
namespace Q
open PySem L2

/-! ### what the text's form must be -/
def noStar : Expr → Bool
  | .Starred _ _ => false
  | _ => true
theorem intsOf_eq : ∀ {xs : List MV} {is : List Int}, intsOf xs = some is → xs = is.map .int
  | [], _, h => by cases h; rfl
  | x :: xs, is, h => by
    cases x with
    | int i =>
      simp only [intsOf] at h
      split at h
      · rename_i js e
        cases h
        rw [intsOf_eq e]; rfl
      · cases h
    | _ => cases h
theorem tupsOf_cons {x : MV} {xs : List MV} {ts : List (List Int)} (h : tupsOf (x :: xs) = some ts) : ∃ is us, ts = is :: us ∧ x = .tup (is.map .int) ∧ tupsOf xs = some us := by
  cases x with
  | tup zs =>
    simp only [tupsOf] at h
    split at h
    · rename_i is us e1 e2
      cases h
      exact ⟨is, us, rfl, by rw [intsOf_eq e1], e2⟩
    · cases h
  | _ => cases h
theorem pyL_ints : ∀ is : List Int, MV.pyL (is.map .int) = is.map PyData.int
  | [] => rfl
  | i :: is => congrArg (PyData.int i :: ·) (pyL_ints is)
theorem tupsOf_py : ∀ {xs : List MV} {ts : List (List Int)}, tupsOf xs = some ts → MV.pyL xs = ts.map tupD
  | [], _, h => by cases h; rfl
  | x :: xs, _, h => by
    obtain ⟨is, us, rfl, rfl, h2⟩ := tupsOf_cons h
    show PyData.tuple (MV.pyL (is.map .int)) :: MV.pyL xs = tupD is :: us.map tupD
    rw [pyL_ints, tupsOf_py h2]
    rfl
theorem tupsOf_shp : ∀ {xs : List MV} {ts : List (List Int)}, tupsOf xs = some ts → xs.all (MV.shp 60) = true
  | [], _, _ => rfl
  | x :: xs, _, h => by
    obtain ⟨is, us, rfl, rfl, h2⟩ := tupsOf_cons h
    rw [List.all_cons, tupsOf_shp h2, Bool.and_true]
    show (is.map MV.int).all (MV.shp 59) = true
    rw [List.all_map, List.all_eq_true]
    intro _ _; rfl
theorem tupsOf_at : ∀ {xs : List MV} {ts : List (List Int)} {i : Nat} {js : List Int}, tupsOf xs = some ts → ts[i]? = some js → xs[i]? = some (.tup (js.map .int))
  | [], _, i, _, h, e => by cases h; simp at e
  | x :: xs, _, i, js, h, e => by
    obtain ⟨is, us, rfl, rfl, h2⟩ := tupsOf_cons h
    cases i with
    | zero => simp at e; subst e; rfl
    | succ i =>
      rw [List.getElem?_cons_succ] at e ⊢
      exact tupsOf_at h2 e
theorem noStar_ok {e : Expr} (h : noStar e = true) : NoStar e := by
  intro es env
  cases e <;> first | rfl | cases h
def plainO : Expr → Bool
  | .Call (.Name _ _) [] [] _ => false
  | _ => true
theorem plainO_ok {o : Expr} (h : plainO o = true) (attr : Str) (env : PySem.Env) (whole : Sem Value) : attributeBase o attr env whole = whole := by
  unfold attributeBase
  split
  · cases h
  · rfl
def plainIx : Expr → Bool
  | .Slice _ _ _ _ => false
  | .Tuple _ _ _ => false
  | .Starred _ _ => false
  | _ => true
theorem plainIx_ok {b : Expr} (h : plainIx b = true) : PlainIx b := by
  intro o i
  cases b <;> first | rfl | cases h
def notSet : Expr → Bool
  | .Set _ _ _ => false
  | _ => true
theorem notSet_ok {b : Expr} (h : notSet b = true) (op : CmpOp) : behindInMarks op b = false := by
  cases b <;> first | rfl | cases h

section
variable {Γ : Gam} {X : Cx} {w w0 : Wd}

/-! ### argument lists -/
structure ArgK (Γ : Gam) (X : Cx) (fs : EVs) (es : List Expr) : Prop where
  pa : PA X es (RDk Γ fs)
  ns : ∀ e ∈ es, NoStar e
  nl : es = [] → ∀ σ H R, RDk Γ fs σ H R → R [] H
structure ArgS (Γ : Gam) (X : Cx) (fs : EVs) (es : List Expr) : Prop where
  pa : PA X es (RDs Γ fs)
  ns : ∀ e ∈ es, NoStar e
theorem star_any {es : List Expr} (h : ∀ e ∈ es, NoStar e) (pos : Pos) (env : PySem.Env) : (backTo pos (starEach es env)).any (·.1) = false := by
  induction es with
  | nil => rfl
  | cons e es ih =>
    rw [h e (List.mem_cons_self ..) es env]
    show (false || (backTo pos (starEach es env)).any (·.1)) = false
    rw [ih fun x hx => h x (List.mem_cons_of_mem _ hx)]
    rfl
theorem star_all {es : List Expr} (h : ∀ e ∈ es, NoStar e) (pos : Pos) (env : PySem.Env) : (backTo pos (starEach es env)).all (fun x => !x.1) = true := by
  induction es with
  | nil => rfl
  | cons e es ih =>
    rw [h e (List.mem_cons_self ..) es env]
    show (true && (backTo pos (starEach es env)).all (fun x => !x.1)) = true
    rw [ih fun x hx => h x (List.mem_cons_of_mem _ hx)]
    rfl
theorem argK_nil : ArgK Γ X fNil [] := ⟨s_nil, fun _ h => (nomatch h), fun _ σ H R h => by
  obtain ⟨w, ρ, vs, M', hH, k, L, e, q⟩ := h
  cases e
  rw [← hH]
  exact q w [] (LeE.refl w) k rfl .nil⟩
theorem argK_cons {f : EV} {fs : EVs} {e : Expr} {es : List Expr} (h : Snd Γ X f e) (hs : ArgK Γ X fs es) (n : NoStar e) : ArgK Γ X (fkCons f fs) (e :: es) :=
  ⟨s_cons h.pe hs.pa n, fun x hx => (List.mem_cons.mp hx).elim (fun z => z ▸ n) (hs.ns x), fun z => nomatch z⟩
theorem argS_nil : ArgS Γ X fNil [] := ⟨s_nils, fun _ h => nomatch h⟩
theorem argS_cons {f : EV} {fs : EVs} {e : Expr} {es : List Expr} (h : Snd Γ X f e) (hs : ArgS Γ X fs es) (n : NoStar e) : ArgS Γ X (fsCons f fs) (e :: es) :=
  ⟨s_conss h.pe hs.pa n, fun x hx => (List.mem_cons.mp hx).elim (fun z => z ▸ n) (hs.ns x)⟩

/-! ### built-in functions -/
inductive ReadVs (Γ : Gam) (w : Wd) : List MV → List V → Prop
  | nil : ReadVs Γ w [] []
  | cons {x v xs vs} : ReadV Γ w x v → ReadVs Γ w xs vs → ReadVs Γ w (x :: xs) (v :: vs)
theorem RepVs.read (k : WOK Γ w) : ∀ {xs : List MV} {vs : List V}, RepVs Γ w xs vs → ReadVs Γ w (xs.map (·.dr w.M)) vs
  | _, _, .nil => .nil
  | _, _, .cons r t => .cons (r.read k) (RepVs.read k t)
def OPs (Γ : Gam) (g : List MV → Store → Option MV) : List V → Hp → VK → Prop := fun us H Q => ∃ w xs z, w.H = H ∧ WOK Γ w ∧ RepVs Γ w xs us ∧ g (xs.map (·.dr w.M)) w.M = some z ∧
  ∀ w' t, LeE w w' → WOK Γ w' → w'.M = w.M → RepV Γ w' z t → New w.H z t → Q t w'.H
theorem OPs.rd {f : Value} {g : List MV → Store → Option MV} (h : ∀ (w : Wd) (xs : List MV) (z : MV) (us : List V) (Q : VK), WOK Γ w → ReadVs Γ w xs us → g xs w.M = some z →
    (∀ w' t, LeE w w' → WOK Γ w' → w'.M = w.M → RepV Γ w' z t → New w.H z t → Q t w'.H) → ∃ r, CallR X f r ∧ r us w.H Q) : CallR X f (OPs Γ g) := by
  intro pins s σ H us vs Q I rv ⟨w, xs, z, hH, k, r, e, q⟩
  subst hH
  obtain ⟨r, ho, hr⟩ := h w _ z us Q k (r.read k) e q
  exact ho pins s σ _ us vs Q I rv hr
theorem ReadVs.one {x : MV} {us : List V} (r : ReadVs Γ w [x] us) : ∃ u, us = [u] ∧ ReadV Γ w x u := by
  cases r with
  | cons a b => cases b; exact ⟨_, rfl, a⟩
theorem ReadVs.two {x y : MV} {us : List V} (r : ReadVs Γ w [x, y] us) : ∃ u v, us = [u, v] ∧ ReadV Γ w x u ∧ ReadV Γ w y v := by
  cases r with
  | cons a b => cases b with
    | cons c d => cases d; exact ⟨_, _, rfl, a, c⟩
theorem ReadV.lst {k : Kd} {xs : List MV} {v : V} (r : ReadV Γ w (.lst k xs) v) : ∃ a vs, v = .ref a ∧ SqL Γ.K w.H a vs ∧ Reps Γ w xs vs := by
  obtain ⟨a, vs, e, _, h, r⟩ := r
  exact ⟨a, vs, e, h, r⟩
theorem ReadV.tupQ {xs : List MV} {v : V} (r : ReadV Γ w (.tup xs) v) : ∃ a vs, v = .ref a ∧ SqT Γ.K w.H a vs ∧ Reps Γ w xs vs := Rep.seqT r

/-! ints -/
theorem fold_max : ∀ (xs : List Int) (a : Int), (∀ y, y = a ∨ y ∈ xs → y ≤ xs.foldl (fun a b => if b > a then b else a) a) ∧ (xs.foldl (fun a b => if b > a then b else a) a = a ∨ xs.foldl (fun a b => if b > a then b else a) a ∈ xs)
  | [], a => ⟨fun y h => (by
      rcases h with rfl | h
      · exact Int.le_refl _
      · cases h), Or.inl rfl⟩
  | x :: xs, a => by
    obtain ⟨h1, h2⟩ := fold_max xs (if x > a then x else a)
    have hx : x ≤ (if x > a then x else a) ∧ a ≤ (if x > a then x else a) := by split <;> omega
    refine ⟨fun y h => ?_, ?_⟩
    · rcases h with rfl | h
      · exact Int.le_trans hx.2 (h1 _ (.inl rfl))
      · rcases List.mem_cons.mp h with rfl | h
        · exact Int.le_trans hx.1 (h1 _ (.inl rfl))
        · exact h1 y (.inr h)
    · rcases h2 with h2 | h2
      · by_cases hc : x > a
        · rw [if_pos hc] at h2; exact .inr (List.mem_cons.mpr (.inl (by rw [List.foldl_cons, if_pos hc]; exact h2)))
        · rw [if_neg hc] at h2; exact .inl (by rw [List.foldl_cons, if_neg hc]; exact h2)
      · exact .inr (List.mem_cons.mpr (.inr (by rw [List.foldl_cons]; exact h2)))
theorem fold_min : ∀ (xs : List Int) (a : Int), (∀ y, y = a ∨ y ∈ xs → xs.foldl (fun a b => if b < a then b else a) a ≤ y) ∧ (xs.foldl (fun a b => if b < a then b else a) a = a ∨ xs.foldl (fun a b => if b < a then b else a) a ∈ xs)
  | [], a => ⟨fun y h => (by
      rcases h with rfl | h
      · exact Int.le_refl _
      · cases h), Or.inl rfl⟩
  | x :: xs, a => by
    obtain ⟨h1, h2⟩ := fold_min xs (if x < a then x else a)
    have hx : (if x < a then x else a) ≤ x ∧ (if x < a then x else a) ≤ a := by split <;> omega
    refine ⟨fun y h => ?_, ?_⟩
    · rcases h with rfl | h
      · exact Int.le_trans (h1 _ (.inl rfl)) hx.2
      · rcases List.mem_cons.mp h with rfl | h
        · exact Int.le_trans (h1 _ (.inl rfl)) hx.1
        · exact h1 y (.inr h)
    · rcases h2 with h2 | h2
      · by_cases hc : x < a
        · rw [if_pos hc] at h2; exact .inr (List.mem_cons.mpr (.inl (by rw [List.foldl_cons, if_pos hc]; exact h2)))
        · rw [if_neg hc] at h2; exact .inl (by rw [List.foldl_cons, if_neg hc]; exact h2)
      · exact .inr (List.mem_cons.mpr (.inr (by rw [List.foldl_cons]; exact h2)))
theorem maxI_is {xs : List Int} {m z : Int} (h : maxI xs = some z) (hm : m ∈ xs) (hl : ∀ y, y ∈ xs → y ≤ m) : m = z := by
  cases xs with
  | nil => cases h
  | cons x xs =>
    cases h
    obtain ⟨h1, h2⟩ := fold_max xs x
    have a1 := h1 m ((List.mem_cons.mp hm).elim .inl .inr)
    have a2 := hl _ (h2.elim (fun z => List.mem_cons.mpr (.inl z)) fun z => List.mem_cons.mpr (.inr z))
    exact Int.le_antisymm a1 a2
theorem minI_is {xs : List Int} {m z : Int} (h : minI xs = some z) (hm : m ∈ xs) (hl : ∀ y, y ∈ xs → m ≤ y) : m = z := by
  cases xs with
  | nil => cases h
  | cons x xs =>
    cases h
    obtain ⟨h1, h2⟩ := fold_min xs x
    have a1 := h1 m ((List.mem_cons.mp hm).elim .inl .inr)
    have a2 := hl _ (h2.elim (fun z => List.mem_cons.mpr (.inl z)) fun z => List.mem_cons.mpr (.inr z))
    exact Int.le_antisymm a2 a1
theorem insI_perm (x : Int) : ∀ xs : List Int, (insI x xs).Perm (x :: xs)
  | [] => .refl _
  | y :: ys => by
    unfold insI
    split
    · exact .refl _
    · exact ((insI_perm x ys).cons y).trans (.swap x y ys)
theorem sortI_perm : ∀ xs : List Int, (sortI xs).Perm xs
  | [] => .refl _
  | x :: xs => (insI_perm x _).trans ((sortI_perm xs).cons x)
theorem insI_sorted (x : Int) : ∀ {xs : List Int}, xs.Pairwise (· ≤ ·) → (insI x xs).Pairwise (· ≤ ·)
  | [], _ => by simp [insI]
  | y :: ys, h => by
    obtain ⟨h1, h2⟩ := List.pairwise_cons.mp h
    unfold insI
    split
    · rename_i hx
      refine List.pairwise_cons.mpr ⟨fun z hz => ?_, h⟩
      rcases List.mem_cons.mp hz with rfl | hz
      · omega
      · have := h1 z hz; omega
    · rename_i hx
      refine List.pairwise_cons.mpr ⟨fun z hz => ?_, insI_sorted x h2⟩
      rcases List.mem_cons.mp ((insI_perm x ys).mem_iff.mp hz) with rfl | hz
      · omega
      · exact h1 z hz
theorem sortI_sorted : ∀ xs : List Int, (sortI xs).Pairwise (· ≤ ·)
  | [] => .nil
  | x :: xs => insI_sorted x (sortI_sorted xs)
theorem sorted_uniq : ∀ {xs ys : List Int}, xs.Perm ys → xs.Pairwise (· ≤ ·) → ys.Pairwise (· ≤ ·) → xs = ys
  | [], ys, h, _, _ => (List.nil_perm.mp h).symm
  | x :: xs, [], h, _, _ => nomatch (List.perm_nil.mp h)
  | x :: xs, y :: ys, h, hx, hy => by
    obtain ⟨h1, h2⟩ := List.pairwise_cons.mp hx
    obtain ⟨h3, h4⟩ := List.pairwise_cons.mp hy
    have e : x = y := by
      have a : x ∈ y :: ys := h.mem_iff.mp (List.mem_cons_self ..)
      have b : y ∈ x :: xs := h.mem_iff.mpr (List.mem_cons_self ..)
      rcases List.mem_cons.mp a with a | a
      · exact a
      · rcases List.mem_cons.mp b with b | b
        · exact b.symm
        · exact Int.le_antisymm (h1 _ b) (h3 _ a)
    subst e
    rw [sorted_uniq ((List.perm_cons x).mp h) h2 h4]

/-! texts of data -/
mutual
theorem MV.shr_py : ∀ (n : Nat) (x : MV), x.shr n = true → x.shp n = true ∧ x.py.showable = true ∧ x.py.hasDict = false
  | n, .non, _ => by cases n <;> simp [MV.shp, MV.py, PyData.showable, PyData.hasDict]
  | n, .bl b, _ => by cases n <;> simp [MV.shp, MV.py, PyData.showable, PyData.hasDict]
  | n, .int i, h => by
    have h' : i.natAbs < 2 ^ 1900 := by cases n <;> exact of_decide_eq_true h
    refine ⟨by cases n <;> rfl, ?_, by simp [MV.py, PyData.hasDict]⟩
    simp only [MV.py, PyData.showable]
    refine decide_eq_true ?_
    by_cases h0 : i.natAbs = 0
    · rw [h0]; decide
    · exact Nat.lt_trans ((Nat.log2_lt h0).mpr h') (by decide)
  | n, .str s, h => by
    have h' : s.cps.all (· < 0x110000) = true := by cases n <;> exact h
    exact ⟨by cases n <;> exact h', by simp [MV.py, PyData.showable], by simp [MV.py, PyData.hasDict]⟩
  | n + 1, .tup xs, h => by
    have h' : xs.all (MV.shr n) = true := h
    obtain ⟨h1, h2, h3⟩ := MV.shr_pyL n xs h'
    exact ⟨h1, by simpa only [MV.py, PyData.showable] using h2, by simpa only [MV.py, PyData.hasDict] using h3⟩
  | n + 1, .lst k xs, h => by
    have h' : xs.all (MV.shr n) = true := h
    obtain ⟨h1, h2, h3⟩ := MV.shr_pyL n xs h'
    exact ⟨h1, by simpa only [MV.py, PyData.showable] using h2, by simpa only [MV.py, PyData.hasDict] using h3⟩
  | 0, .tup xs, h => by cases h
  | 0, .lst k xs, h => by cases h
  | 0, .dct k t xs, h => by cases h
  | n + 1, .dct k t xs, h => by cases h
  | 0, .st k xs, h => by cases h
  | n + 1, .st k xs, h => by cases h
  | 0, .ref k, h => by cases h
  | n + 1, .ref k, h => by cases h
theorem MV.shr_pyL : ∀ (n : Nat) (xs : List MV), xs.all (MV.shr n) = true → xs.all (MV.shp n) = true ∧ PyData.showableAll (MV.pyL xs) = true ∧ PyData.hasDictAll (MV.pyL xs) = false
  | n, [], _ => by simp [MV.pyL, PyData.showableAll, PyData.hasDictAll]
  | n, x :: xs, h => by
    rw [List.all_cons, Bool.and_eq_true] at h
    obtain ⟨h1, h2, h3⟩ := MV.shr_py n x h.1
    obtain ⟨h4, h5, h6⟩ := MV.shr_pyL n xs h.2
    exact ⟨by rw [List.all_cons, h1, h4]; rfl, by simp only [MV.pyL, PyData.showableAll, h2, h5, Bool.and_self], by simp only [MV.pyL, PyData.hasDictAll, h3, h6, Bool.or_self]⟩
end
theorem call_repr (g : Gd Γ X) : CallR X (.builtin "repr") (fun us H Q => ∃ a d, us = [.ref a] ∧ Dp X.K H (.ref a) d ∧ d.showable = true ∧ d.hasDict = false ∧ d.depth ≤ 60 ∧ d.shown.length ≤ sizeLine ∧ Q (.str d.shown) H) := by
  intro pins s σ H us vs Q I rv ⟨a, d, e, hd, h1, h2, h3, h4, q⟩
  subst e
  obtain ⟨u, rfl, r⟩ := vals1 rv
  cases (show u = Value.ref a from r)
  obtain ⟨as, rd⟩ := Dp.reads I d _ _ hd rfl
  refine PySem.repr_of_reads' rd h1 (PyData.noDict_hsm h2) g.gu (by have := g.hu; omega) (fun _ _ e => e) (fun h' u tk hk => ?_) h4
  exact ⟨.str d.shown, H, I.kept (t' := tk) hk, ⟨u, rfl⟩, q⟩
theorem call_repr0 : CallR X (.builtin "repr") (fun us H Q => ∃ v d, us = [v] ∧ ((∃ b, v = V.bl b ∧ d = PyData.bool b) ∨ (∃ i, v = V.int i ∧ i.natAbs.log2 < 1920 ∧ d = PyData.int i) ∨ (v = V.non ∧ d = PyData.none) ∨ (∃ x, v = V.str x ∧ d = PyData.str x)) ∧ d.shown.length ≤ sizeLine ∧ Q (.str d.shown) H) := by
  intro pins s σ H us vs Q I rv ⟨v, d, e, hv, hl, q⟩
  subst e
  obtain ⟨u, rfl, r⟩ := vals1 rv
  have fin : ∀ t : Str, t = d.shown → EP X pins σ Q (Value.str t s.toks) { heap := s.heap, gens := s.gens, drawn := s.drawn, toks := s.toks + 1, os := s.os } := fun t ht => by
    subst ht
    exact ⟨.str d.shown, H, I.kept (t' := s.toks + 1) fun _ _ h => h, ⟨_, rfl⟩, q⟩
  rcases hv with ⟨b, rfl, rfl⟩ | ⟨i, rfl, hi, rfl⟩ | ⟨rfl, rfl⟩ | ⟨x, rfl, rfl⟩
  · obtain rfl : u = Value.bool b := r
    exact P.repr_of_bool (fin _ (PyData.shown_bool b).symm)
  · obtain ⟨t, rfl⟩ := r
    exact P.repr_of_int hi (fin _ (PyData.shown_int i).symm)
  · obtain rfl : u = Value.none := r
    exact P.repr_of_none (fin _ PyData.shown_none.symm)
  · obtain ⟨t, rfl⟩ := r
    exact P.repr_of_str (fin _ (PyData.shown_str x).symm) (by rw [PyData.shown_str] at hl; exact hl)

theorem RepK.length : ∀ {kvs : List (KY × MV)} {ps : List (Key × V)}, RepK Γ w kvs ps → kvs.length = ps.length
  | _, _, .nil => rfl
  | _, _, .cons _ t => by rw [List.length_cons, List.length_cons, RepK.length t]
/-- the built-in's value -/
def Bi.v : Bi → Value
  | .len => .builtin "len" | .all => .builtin "all" | .any => .builtin "any" | .sum => .builtin "sum"
  | .maxL => .builtin "max" | .minL => .builtin "min" | .max2 => .builtin "max" | .min2 => .builtin "min" | .sortedI => .builtin "sorted"
  | .tuple => .type "tuple" | .list => .type "list" | .int => .type "int" | .abs => .builtin "abs" | .repr => .builtin "repr"
  | _ => .none
theorem c_bi (g : Gd Γ X) (b : Bi) : CallR X b.v (OPs Γ fun vs _ => match b with | .enum => none | .zip => none | .range1 => none | .range2 => none | .range3 => none | .dict1 => none | b => evBi b vs) := by
  refine OPs.rd fun w xs z us Q k r e q => ?_
  have hK := g.K
  match b, xs, r, e with
  | .len, [.tup ys], r, e =>
    cases e
    obtain ⟨u, rfl, r1⟩ := r.one
    obtain ⟨a, vs, rfl, h, rs⟩ := r1.tupQ
    exact ⟨_, call_len, _, vs.length, rfl, .inr ⟨vs, by rw [hK]; exact h, rfl⟩, by rw [← rs.length]; exact done1 k (.int _) q⟩
  | .len, [.lst kd ys], r, e =>
    cases e
    obtain ⟨u, rfl, r1⟩ := r.one
    obtain ⟨a, vs, rfl, h, rs⟩ := r1.lst
    exact ⟨_, call_len, _, vs.length, rfl, .inl ⟨vs, by rw [hK]; exact h, rfl⟩, by rw [← rs.length]; exact done1 k (.int _) q⟩
  | .len, [.str y], r, e =>
    obtain ⟨hc, e⟩ := ite_some e
    cases e
    obtain ⟨u, rfl, r1⟩ := r.one
    rw [r1.str]
    exact ⟨_, call_len, _, y.length, rfl, ⟨by rw [← SZ_eq]; exact hc, rfl⟩, done1 k (.int _) q⟩
  | .len, [.dct kd false kvs], r, e =>
    cases e
    obtain ⟨u, rfl, r1⟩ := r.one
    obtain ⟨a, rfl, h⟩ := r1
    unfold RepD at h
    rw [if_neg Bool.false_ne_true] at h
    obtain ⟨ps, h1, h2⟩ := h
    have hl := h2.length
    exact ⟨_, call_lenD, a, ps, rfl, h1, by rw [← hl]; exact done1 k (.int _) q⟩
  | .all, [.lst kd ys], r, e =>
    obtain ⟨bs, eb, rfl⟩ := map_some e
    obtain ⟨u, rfl, r1⟩ := r.one
    obtain ⟨a, vs, rfl, h, rs⟩ := r1.lst
    have ev := reps_bools rs eb
    subst ev
    exact ⟨_, cr_all g.calm, a, bs, rfl, by rw [hK]; exact h, done1 k (.bl _) q⟩
  | .any, [.lst kd ys], r, e =>
    obtain ⟨bs, eb, rfl⟩ := map_some e
    obtain ⟨u, rfl, r1⟩ := r.one
    obtain ⟨a, vs, rfl, h, rs⟩ := r1.lst
    have ev := reps_bools rs eb
    subst ev
    exact ⟨_, cr_any g.calm, a, bs, rfl, by rw [hK]; exact h, done1 k (.bl _) q⟩
  | .sum, [.lst kd ys], r, e =>
    obtain ⟨is, ei, rfl⟩ := map_some e
    obtain ⟨u, rfl, r1⟩ := r.one
    obtain ⟨a, vs, rfl, h, rs⟩ := r1.lst
    have ev := reps_ints rs ei
    subst ev
    exact ⟨_, cr_sum g.calm, a, is, rfl, by rw [hK]; exact h, done1 k (.int _) q⟩
  | .maxL, [.lst kd ys], r, e =>
    simp only [evBi] at e
    split at e
    · rename_i is ei
      obtain ⟨m, em, rfl⟩ := map_some e
      obtain ⟨u, rfl, r1⟩ := r.one
      obtain ⟨a, vs, rfl, h, rs⟩ := r1.lst
      have ev := reps_ints rs ei
      subst ev
      refine ⟨_, cr_max g.calm, a, is, rfl, by rw [hK]; exact h, ?_, fun m' h1 h2 => ?_⟩
      · cases is with
        | nil => cases em
        | cons => exact Nat.succ_pos _
      · rw [maxI_is em h1 h2]; exact done1 k (.int _) q
    · cases e
  | .minL, [.lst kd ys], r, e =>
    simp only [evBi] at e
    split at e
    · rename_i is ei
      obtain ⟨m, em, rfl⟩ := map_some e
      obtain ⟨u, rfl, r1⟩ := r.one
      obtain ⟨a, vs, rfl, h, rs⟩ := r1.lst
      have ev := reps_ints rs ei
      subst ev
      refine ⟨_, cr_min g.calm, a, is, rfl, by rw [hK]; exact h, ?_, fun m' h1 h2 => ?_⟩
      · cases is with
        | nil => cases em
        | cons => exact Nat.succ_pos _
      · rw [minI_is em h1 h2]; exact done1 k (.int _) q
    · split at e
      · rename_i t ts et
        cases e
        obtain ⟨u, rfl, r1⟩ := r.one
        obtain ⟨a, vs, rfl, h, rs⟩ := r1.lst
        have dp : DpAll X.K w.H vs ((t :: ts).map tupD) := by rw [← tupsOf_py et, hK]; exact Reps.dp 60 ys vs (tupsOf_shp et) rs
        refine ⟨_, cr_minTs g.calm (by have := g.hu; omega), a, vs, t, ts, rfl, by rw [hK]; exact h, dp, fun i u hu hi => ?_⟩
        obtain ⟨u', hu', ru⟩ := rs.get (tupsOf_at et hi)
        rw [hu] at hu'
        cases hu'
        exact done1 k ru q
      · cases e
  | .sum, [.tup ys], r, e =>
    obtain ⟨is, ei, rfl⟩ := map_some e
    obtain ⟨u, rfl, r1⟩ := r.one
    obtain ⟨a, vs, rfl, h, rs⟩ := r1.tupQ
    have ev := reps_ints rs ei
    subst ev
    exact ⟨_, cr_sumT g.calm, a, is, rfl, by rw [hK]; exact h, done1 k (.int _) q⟩
  | .maxL, [.tup ys], r, e =>
    simp only [evBi] at e
    split at e
    · rename_i is ei
      obtain ⟨m, em, rfl⟩ := map_some e
      obtain ⟨u, rfl, r1⟩ := r.one
      obtain ⟨a, vs, rfl, h, rs⟩ := r1.tupQ
      have ev := reps_ints rs ei
      subst ev
      refine ⟨_, cr_maxT g.calm, a, is, rfl, by rw [hK]; exact h, ?_, fun m' h1 h2 => ?_⟩
      · cases is with
        | nil => cases em
        | cons => exact Nat.succ_pos _
      · rw [maxI_is em h1 h2]; exact done1 k (.int _) q
    · cases e
  | .minL, [.tup ys], r, e =>
    simp only [evBi] at e
    split at e
    · rename_i is ei
      obtain ⟨m, em, rfl⟩ := map_some e
      obtain ⟨u, rfl, r1⟩ := r.one
      obtain ⟨a, vs, rfl, h, rs⟩ := r1.tupQ
      have ev := reps_ints rs ei
      subst ev
      refine ⟨_, cr_minT g.calm, a, is, rfl, by rw [hK]; exact h, ?_, fun m' h1 h2 => ?_⟩
      · cases is with
        | nil => cases em
        | cons => exact Nat.succ_pos _
      · rw [minI_is em h1 h2]; exact done1 k (.int _) q
    · cases e
  | .max2, [.int i, .int j], r, e =>
    cases e
    obtain ⟨u, v, rfl, r1, r2⟩ := r.two
    rw [r1.int, r2.int]
    exact ⟨_, call_max2 g.calm, i, j, rfl, done1 k (.int _) q⟩
  | .min2, [.int i, .int j], r, e =>
    cases e
    obtain ⟨u, v, rfl, r1, r2⟩ := r.two
    rw [r1.int, r2.int]
    exact ⟨_, call_min2 g.calm, i, j, rfl, done1 k (.int _) q⟩
  | .sortedI, [.lst kd ys], r, e =>
    simp only [evBi] at e
    split at e
    · rename_i is ei
      obtain ⟨hc, e⟩ := ite_some e
      cases e
      obtain ⟨u, rfl, r1⟩ := r.one
      obtain ⟨a, vs, rfl, h, rs⟩ := r1.lst
      have ev := reps_ints rs ei
      subst ev
      refine ⟨_, cr_sorted, a, is, rfl, by rw [hK]; exact h, hc, fun ns' p h1 h2 hp => ?_⟩
      rw [sorted_uniq (h1.trans (sortI_perm is).symm) h2 (sortI_sorted is)]
      exact doneL k hp (ints_reps _) q
    · cases e
  | .sortedI, [.tup ys], r, e =>
    simp only [evBi] at e
    split at e
    · rename_i is ei
      obtain ⟨hc, e⟩ := ite_some e
      cases e
      obtain ⟨u, rfl, r1⟩ := r.one
      obtain ⟨a, vs, rfl, h, rs⟩ := r1.tupQ
      have ev := reps_ints rs ei
      subst ev
      refine ⟨_, cr_sortedT, a, is, rfl, by rw [hK]; exact h, hc, fun ns' p h1 h2 hp => ?_⟩
      rw [sorted_uniq (h1.trans (sortI_perm is).symm) h2 (sortI_sorted is)]
      exact doneL k hp (ints_reps _) q
    · cases e
  | .tuple, [.lst kd ys], r, e =>
    cases e
    obtain ⟨u, rfl, r1⟩ := r.one
    obtain ⟨a, vs, rfl, h, rs⟩ := r1.lst
    exact ⟨_, call_tuple_of, a, vs, rfl, .inl ⟨by rw [hK]; exact h, fun p hp => doneT k hp rs q⟩⟩
  | .tuple, [.tup ys], r, e =>
    cases e
    obtain ⟨u, rfl, r0⟩ := r.one
    obtain ⟨a, vs, rfl, h, rs⟩ := r0.tupQ
    exact ⟨_, call_tuple_of, a, vs, rfl, .inr ⟨by rw [hK]; exact h, done1 k (show Rep Γ w (.tup ys) (.ref a) from r0) q⟩⟩
  | .list, [v], r, e =>
    simp only [evBi] at e
    split at e
    · rename_i ys es
      cases e
      obtain ⟨u, rfl, r1⟩ := r.one
      obtain ⟨a, vs, rfl, h, rs⟩ := seqOf_read r1 es
      exact ⟨_, call_list_of, a, vs, rfl, by rw [hK]; exact h, fun p hp => doneL k hp rs q⟩
    · cases e
  | .int, [.bl c], r, e =>
    cases e
    obtain ⟨u, rfl, r1⟩ := r.one
    rw [r1.bl]
    exact ⟨_, call_int1, .inr ⟨c, rfl, done1 k (.int _) q⟩⟩
  | .int, [.int i], r, e =>
    cases e
    obtain ⟨u, rfl, r1⟩ := r.one
    rw [r1.int]
    exact ⟨_, call_int1, .inl ⟨i, rfl, done1 k (.int _) q⟩⟩
  | .abs, [.int i], r, e =>
    cases e
    obtain ⟨u, rfl, r1⟩ := r.one
    rw [r1.int]
    exact ⟨_, call_abs, i, rfl, done1 k (.int _) q⟩
  | .repr, [v], r, e =>
    obtain ⟨hc, e⟩ := ite_some e
    cases e
    rw [Bool.and_eq_true] at hc
    obtain ⟨h1, h2, h3⟩ := MV.shr_py 60 _ hc.1
    obtain ⟨u, rfl, r0⟩ := r.one
    have hl : (PyData.shown v.py).length ≤ sizeLine := by rw [← SZ_eq]; exact of_decide_eq_true hc.2
    have q' : Q (.str (PyData.shown v.py)) w.H := done1 k (.str _) q
    obtain ⟨_, c2⟩ := MV.shp_py 60 _ h1
    have d1 := r0.dp h1
    cases v with
    | tup ys =>
      obtain ⟨a, vs, rfl, h, rs⟩ := r0.tupQ
      rw [← hK] at d1
      exact ⟨_, call_repr g, a, _, rfl, d1, h2, h3, c2, hl, q'⟩
    | lst kd ys =>
      obtain ⟨a, vs, rfl, h, rs⟩ := r0.lst
      rw [← hK] at d1
      exact ⟨_, call_repr g, a, _, rfl, d1, h2, h3, c2, hl, q'⟩
    | bl b => rw [r0.bl]; exact ⟨_, call_repr0, _, _, rfl, .inl ⟨b, rfl, rfl⟩, hl, q'⟩
    | int i =>
      rw [r0.int]
      have hi : i.natAbs < 2 ^ 1900 := of_decide_eq_true hc.1
      refine ⟨_, call_repr0, _, _, rfl, .inr (.inl ⟨i, rfl, ?_, rfl⟩), hl, q'⟩
      by_cases h0 : i.natAbs = 0
      · rw [h0]; decide
      · exact Nat.lt_of_lt_of_le ((Nat.log2_lt h0).mpr hi) (by decide)
    | non => cases (show Rep Γ w .non u from r0); exact ⟨_, call_repr0, _, _, rfl, .inr (.inr (.inl ⟨rfl, rfl⟩)), hl, q'⟩
    | str x => cases (show Rep Γ w (.str x) u from r0); exact ⟨_, call_repr0, _, _, rfl, .inr (.inr (.inr ⟨x, rfl, rfl⟩)), hl, q'⟩
    | dct _ _ _ => cases hc.1
    | st _ _ => cases hc.1
    | ref _ => cases hc.1

def fBi (b : Bi) (fs : EVs) : EV := fun ρ M => (fs ρ M).bind fun xs M1 => ofO (evBi b (if b.it = true then xs else xs.map (·.dr M1))) M1
def Bi.fn : Bi → Bool
  | .len | .all | .any | .sum | .maxL | .minL | .max2 | .min2 | .sortedI | .tuple | .list | .int | .abs | .repr => true
  | _ => false
/-- the arguments, then a reading of them all -/
theorem rdk_ops {fs : EVs} {gg : List MV → Store → Option MV} {σ : St} {H : Hp} {Q : VK} (h : RD Γ (fun ρ M => (fs ρ M).bind fun xs M1 => ofO (gg (xs.map (·.dr M1)) M1) M1) σ H Q) : tCB (OPs Γ gg) (RDs Γ fs) σ H Q := by
  obtain ⟨w, ρ, z, M', hH, k, L, e, q⟩ := h
  obtain ⟨xs, M1, e1, e2⟩ := bind_ok e
  obtain ⟨e2', rfl⟩ := ofO_ok e2
  refine ⟨w, ρ, xs, _, hH, k, L, e1, fun w1 us l1 k1 em r1 _ => ?_⟩
  subst em
  exact ⟨w1, xs, z, rfl, k1, r1, e2', fun w2 t l2 k2 em r n => q w2 t (l1.trans l2) k2 em r (n.le l1)⟩
theorem s_bi (g : Gd Γ X) {b : Bi} {x : Str} {e : Expr} {es : List Expr} {fs : EVs} {p pos : Pos} (hb : b.fn = true) (hg : Gl X x) (hm : X.mg x = none) (hv : bootBuiltins x = some b.v) (ha : ArgS Γ X fs (e :: es))
    (hn : x ≠ "__name__") (hdb : (x == ("__debug__" : Str)) = false) : Snd Γ X (fBi b fs) (.Call (.Name x p) (e :: es) [] pos) := by
  have he : starEach (e :: es) X.env = (false, eval e X.env) :: starEach es X.env := ha.ns e (List.mem_cons_self ..) _ _
  have hpl := star_any (fun y hy => ha.ns y (List.mem_cons_of_mem _ hy)) pos X.env
  refine .of_pe g ?_ (fun _ => rfl) (fun _ _ _ z => nomatch z)
  have hc := c_bi g b
  have fin : ∀ σ H Q, RD Γ (fBi b fs) σ H Q → tCB (OPs Γ fun vs _ => match b with | .enum => none | .zip => none | .range1 => none | .range2 => none | .range3 => none | .dict1 => none | b => evBi b vs) (RDs Γ fs) σ H Q := fun σ H Q h => rdk_ops (by cases b <;> first | exact h | cases hb)
  cases b <;> first
    | exact (pe_callB hc hg hm hv ha.pa hn hdb he hpl).imp fin
    | exact (pe_callTy hc hg hm hv ha.pa hn hdb he hpl).imp fin
    | cases hb

/-! ### isinstance -/
/-- what the table says of classes -/
structure Cl1 (K : PySem.W.Frag) (C : Addr) : Prop where
  cl : Cls K C
  ha : PySem.W.findIn K (.ref C) "__class__" = some (some (.builtin "object.__class__"))
  hn : PySem.W.specialIn K (.builtin "object.__class__") "__get__" = some (some (.builtin "getset_descriptor.__get__"))
  htk : PySem.W.takesIn K (.builtin "object.__class__") = some true
  hm : PySem.W.mroIn K C (.type "object") = some true
  ii : PySem.W.kitOne K (.ref C) (.type "int") = some false
  ib : PySem.W.kitOne K (.ref C) (.type "bool") = some false
  is : PySem.W.kitOne K (.ref C) (.type "str") = some false
  it : PySem.W.kitOne K (.ref C) (.type "tuple") = some false
  il : PySem.W.kitOne K (.ref C) (.type "list") = some false
  id : PySem.W.kitOne K (.ref C) (.type "dict") = some false
  ri : PySem.W.kitOne K (.type "int") (.ref C) = some false
  rn : PySem.W.kitOne K (.type "NoneType") (.ref C) = some false
  rb : PySem.W.kitOne K (.type "bool") (.ref C) = some false
  rs : PySem.W.kitOne K (.type "str") (.ref C) = some false
  rt : PySem.W.kitOne K (.type "tuple") (.ref C) = some false
  rl : PySem.W.kitOne K (.type "list") (.ref C) = some false
  rd : PySem.W.kitOne K (.type "dict") (.ref C) = some false
structure TG (Γ : Gam) (T : Tab) : Prop where
  cc : ∀ C, T.cc C = true → Cl1 Γ.K (Γ.cl C)
  sub : ∀ D C, T.cc D = true → T.cc C = true → PySem.W.kitOne Γ.K (.ref (Γ.cl D)) (.ref (Γ.cl C)) = some (T.sub D C)
  cf : ∀ C f, T.cf C f = true → Cls Γ.K (Γ.cl C) ∧ NoAttr Γ.K (Γ.cl C) (Γ.nm f)
/-- the type's value -/
def Ty.v (Γ : Gam) : Ty → Value
  | .int => .type "int" | .bool => .type "bool" | .str => .type "str" | .tup => .type "tuple" | .lst => .type "list" | .dct => .type "dict"
  | .cls C => .ref (Γ.cl C)
def Ty.u (Γ : Gam) : Ty → V
  | .int => .ty "int" | .bool => .ty "bool" | .str => .ty "str" | .tup => .ty "tuple" | .lst => .ty "list" | .dct => .ty "dict"
  | .cls C => .ref (Γ.cl C)
theorem Ty.clsV (Γ : Gam) (t : Ty) : ClsV (t.u Γ) (t.v Γ) := by cases t <;> first | exact .ty _ | exact .own _
def Ty.ok (T : Tab) : Ty → Bool
  | .cls C => T.cc C
  | _ => true
theorem isTy_read {T : Tab} (tg : TG Γ T) {x : MV} {v : V} {t : Ty} {b : Bool} (k : WOK Γ w) (ht : t.ok T = true) (r : RepV Γ w x v) (h : isTy T w.M x t = some b) :
    ∃ tv, TyX Γ.K w.H v tv ∧ PySem.W.kitOne Γ.K tv (t.v Γ) = some b := by
  have r' := r.read k
  cases x with
  | non =>
    rw [r'.non]
    refine ⟨_, .base .non, ?_⟩
    cases h
    cases t <;> first | exact kit_ty (by decide +kernel) | exact (tg.cc _ ht).rn
  | bl c =>
    rw [r'.bl]
    refine ⟨_, .base (.bl c), ?_⟩
    cases t <;> cases h <;> first | exact kit_ty (by decide +kernel) | exact (tg.cc _ ht).rb
  | int i =>
    rw [r'.int]
    refine ⟨_, .base (.int i), ?_⟩
    cases t <;> cases h <;> first | exact kit_ty (by decide +kernel) | exact (tg.cc _ ht).ri
  | str s =>
    rw [r'.str]
    refine ⟨_, .base (.str s), ?_⟩
    cases t <;> cases h <;> first | exact kit_ty (by decide +kernel) | exact (tg.cc _ ht).rs
  | tup xs =>
    have hty : TyX Γ.K w.H v (.type "tuple") := by
      cases (show Rep Γ w _ _ from r) with
      | tup h0 rs =>
        rcases h0 with ⟨_, h0⟩ | ⟨_, o, its, n, h1, h2, _⟩
        · exact .base (.tup h0)
        · exact .kTuple h1 h2
    refine ⟨_, hty, ?_⟩
    cases t <;> cases h <;> first | exact kit_ty (by decide +kernel) | exact (tg.cc _ ht).rt
  | lst kd xs =>
    have hty : TyX Γ.K w.H v (.type "list") := by
      cases kd with
      | fz => cases (show Rep Γ w _ _ from r) with | lst h1 h2 h3 => exact .base (.lst h2)
      | ro => cases (show Rep Γ w _ _ from r) with
        | lro h0 h3 =>
          rcases h0 with ⟨_, o, h2⟩ | ⟨o, its, n, h1, h2, _⟩
          · exact .base (.frz h2)
          · exact .kList h1 h2
      | nw => obtain ⟨a, vs, rfl, h, _⟩ := r; exact .base (.lst h)
      | bw => obtain ⟨a, vs, rfl, h, _⟩ := r; exact .base (.lst h)
    refine ⟨_, hty, ?_⟩
    cases t <;> cases h <;> first | exact kit_ty (by decide +kernel) | exact (tg.cc _ ht).rl
  | dct kd tt xs =>
    have hty : TyX Γ.K w.H v (.type "dict") := by
      obtain ⟨a, rfl, hd⟩ := r'
      unfold RepD at hd
      split at hd
      · obtain ⟨ps, h1, _⟩ := hd; exact .base (.dT h1)
      · obtain ⟨ps, h1, _⟩ := hd; exact .base (.dK h1)
    refine ⟨_, hty, ?_⟩
    cases t <;> cases h <;> first | exact kit_ty (by decide +kernel) | exact (tg.cc _ ht).rd
  | st kd xs => exact r.elim
  | ref n =>
    have ev : v = .ref (w.μ n) := by cases (show Rep Γ w _ _ from r); rfl
    subst ev
    simp only [isTy] at h
    split at h
    · rename_i o eo
      have ro := k.obj n o eo
      cases o with
      | lst xs =>
        obtain ⟨vs, h1, _⟩ := ro
        refine ⟨_, .base (.lst h1), ?_⟩
        cases t <;> cases h <;> first | exact kit_ty (by decide +kernel) | exact (tg.cc _ ht).rl
      | dct tt xs =>
        have hty : TyX Γ.K w.H (.ref (w.μ n)) (.type "dict") := by
          have hd : RepD Γ w tt xs (w.μ n) := ro
          unfold RepD at hd
          split at hd
          · obtain ⟨ps, h1, _⟩ := hd; exact .base (.dT h1)
          · obtain ⟨ps, h1, _⟩ := hd; exact .base (.dK h1)
        refine ⟨_, hty, ?_⟩
        cases t <;> cases h <;> first | exact kit_ty (by decide +kernel) | exact (tg.cc _ ht).rd
      | ins D fs =>
        obtain ⟨dx, gs, h1, _⟩ := ro
        have hD : T.cc D = true := by
          cases hc : T.cc D with
          | true => rfl
          | false => cases t <;> simp [MObj.ty, hc] at h
        have c := tg.cc D hD
        refine ⟨_, .base (.ins h1 c.cl c.ha c.hn c.htk c.hm), ?_⟩
        cases t with
        | cls C =>
          simp only [MObj.ty, hD, if_true] at h
          rw [← h]
          exact tg.sub D C hD ht
        | int => simp only [MObj.ty, hD, if_true] at h; cases h; exact c.ii
        | bool => simp only [MObj.ty, hD, if_true] at h; cases h; exact c.ib
        | str => simp only [MObj.ty, hD, if_true] at h; cases h; exact c.is
        | tup => simp only [MObj.ty, hD, if_true] at h; cases h; exact c.it
        | lst => simp only [MObj.ty, hD, if_true] at h; cases h; exact c.il
        | dct => simp only [MObj.ty, hD, if_true] at h; cases h; exact c.id
    · cases h
end
end Q

/-! EvH: calls of the program's own defs, methods, classes; fields; isinstance; dict displays. -/
namespace Q
open PySem L2

/-- no exception gets out -/
abbrev CXn : CXT := fun _ _ _ _ _ _ => False
abbrev En : XK := fun _ _ _ => False
/-- a def's promise where no object's text is being made -/
structure FnG (P : Program) (w : World) (K : PySem.W.Frag) (mg : Str → Option Value) (base : Heap) (k : Nat) (f : Addr) (fd : FuncData) (ps : List Str) (sp : List V → Hp → VK → Prop) : Prop where
  len : ∀ vs H Q, sp vs H Q → vs.length = ps.length
  run : ∀ (A : Around) (outer : List PySem.Env) (s : Shared) (H : Hp) (args : Args) (us : List Value) (vs : List V) (Q : VK), Room k A → A.guards = some [] → Env0 P w K mg base A outer s H → BindsTo s fd args (ps.zip us) → Vals vs us → sp vs H Q →
    codeAny (model P w) A (.call (.ref f) args) (CR CXn outer P w H s Q En) s

section
variable {Γ : Gam} {X : Cx} {w w0 : Wd}
theorem runG {k : Nat} {f : Addr} {fd : FuncData} {ps : List Str} {sp : List V → Hp → VK → Prop} {pins : List (Addr × Obj)} {σ : St} {H : Hp} {s : Shared} {Q : VK} {us : List Value} {vs : List V}
    (F : FnG X.prog X.w X.K X.mg X.base k f fd ps sp) (hr : Room k X.A) (hg : X.A.guards = some []) (hb : Binds X.K fd ps []) (I : Inv X pins σ H s) (r : Vals vs us) (h : sp vs H Q) :
    wpAny (model X.prog X.w) X.A (PySem.call (.ref f) us) (EP X pins σ Q) X.xe s := by
  have hl : (us ++ ([] : List Value)).length = ps.length := by rw [List.append_nil, ← r.length]; exact F.len _ _ _ h
  have hb' := hb s us I.kIn hl
  rw [List.append_nil] at hb'
  refine wpAny_call (codeAny_mono (F.run X.A X.stack s H ⟨us, []⟩ us vs Q hr hg I.env0 hb' r h) fun o s' hq => ?_)
  match o, hq with
  | .error e, hq => exact hq.elim
  | .ok (.ret u), hq => exact I.after hq
theorem make_guards {A : Around} {C : Addr} {us : List Value} {kw : List (Str × Value)} : (A.under (.builtin "type.__call__" ⟨.ref C :: us, kw⟩)).guards = A.guards := by
  cases h : A.guards <;> simp [Around.under, Code.guards, Code.isGuard, guardIds, pushGuards, h]
theorem makeG {k : Nat} {f C : Addr} {fd : FuncData} {ps : List Str} {sp : List V → Hp → VK → Prop} {pins : List (Addr × Obj)} {σ : St} {H : Hp} {s : Shared} {Q : VK} {us : List Value} {vs : List V}
    (M : Mk X.K C f) (F : FnG X.prog X.w X.K X.mg X.base k f fd ps sp) (hr : Room (k + 1) X.A) (hg : X.A.guards = some []) (hb : Binds X.K fd ps []) (I : Inv X pins σ H s) (r : Vals vs us)
    (h : ∀ x dx, H x = none → H dx = none → dx ≠ x → sp (.ref x :: vs) (upd (upd H dx (.own x)) x (.ins C dx [])) (fun v H2 => v = .non ∧ Q (.ref x) H2)) :
    wpAny (model X.prog X.w) X.A (PySem.call (.ref C) us) (EP X pins σ Q) X.xe s := by
  have hq := h (s.heap.objs.size + 1) s.heap.objs.size (I.hok.fresh (Nat.le_succ _)) (I.hok.fresh (Nat.le_refl _)) (Nat.ne_of_lt (Nat.lt_succ_self _))
  have I2 := Inv.made (C := C) I
  have r2 : Vals (V.ref (s.heap.objs.size + 1) :: vs) (Value.ref (s.heap.objs.size + 1) :: us) := .cons rfl r
  have hl : (Value.ref (s.heap.objs.size + 1) :: us ++ ([] : List Value)).length = ps.length := by
    rw [List.append_nil, ← r2.length]; exact F.len _ _ _ hq
  have hb' := hb _ (Value.ref (s.heap.objs.size + 1) :: us) I2.kIn hl
  rw [List.append_nil] at hb'
  refine wpAny_call (make_map (f := f) I.kIn M.makes M.init (beq_iff_eq.mp M.fn) (codeAny_mono (F.run _ X.stack _ _ ⟨Value.ref (s.heap.objs.size + 1) :: us, []⟩ _ _ _ (hr.make C us [])
    (make_guards.trans hg) (I2.env0.make C us []) hb' r2 hq) fun o s' hq' => ?_))
  match o, hq' with
  | .error e, hq' => exact hq'.elim
  | .ok (.ret u), hq' =>
    obtain ⟨v, H', I3, rv, ev, q3⟩ := I2.after hq'
    subst ev
    exact ⟨rv, ⟨V.ref (s.heap.objs.size + 1), H', I3, rfl, q3⟩⟩

theorem makeGK {k n : Nat} {f C : Addr} {fd : FuncData} {ps ks : List Str} {sp : List V → Hp → VK → Prop} {pins : List (Addr × Obj)} {σ : St} {H : Hp} {s : Shared} {Q : VK} {us ws : List Value} {vs zs : List V} {gu : List Value → List Value → List Value} {gV : List V → List V → List V}
    (M : Mk X.K C f) (F : FnG X.prog X.w X.K X.mg X.base k f fd ps sp) (hr : Room (k + 1) X.A) (hg : X.A.guards = some []) (hb : KBn X.K fd ps (n + 1) ks gu gV) (I : Inv X pins σ H s) (r : Vals vs us) (rz : Vals zs ws) (hn : vs.length = n) (hz : zs.length = ks.length)
    (h : ∀ x dx, H x = none → H dx = none → dx ≠ x → sp (gV (.ref x :: vs) zs) (upd (upd H dx (.own x)) x (.ins C dx [])) (fun v H2 => v = .non ∧ Q (.ref x) H2)) :
    wpAny (model X.prog X.w) X.A (PySem.call (.ref C) us (ks.zip ws)) (EP X pins σ Q) X.xe s := by
  have hq := h (s.heap.objs.size + 1) s.heap.objs.size (I.hok.fresh (Nat.le_succ _)) (I.hok.fresh (Nat.le_refl _)) (Nat.ne_of_lt (Nat.lt_succ_self _))
  have I2 := Inv.made (C := C) I
  have r2 : Vals (V.ref (s.heap.objs.size + 1) :: vs) (Value.ref (s.heap.objs.size + 1) :: us) := .cons rfl r
  have hb' := hb.to _ (Value.ref (s.heap.objs.size + 1) :: us) ws I2.kIn (by rw [List.length_cons, ← r.length, hn]) (by rw [← rz.length, hz])
  have rr := hb.rel r2 rz
  refine wpAny_call (make_map (f := f) I.kIn M.makes M.init (beq_iff_eq.mp M.fn) (codeAny_mono (F.run _ X.stack _ _ ⟨Value.ref (s.heap.objs.size + 1) :: us, ks.zip ws⟩ _ _ _ (hr.make C us (ks.zip ws))
    (make_guards.trans hg) (I2.env0.make C us (ks.zip ws)) hb' rr hq) fun o s' hq' => ?_))
  match o, hq' with
  | .error e, hq' => exact hq'.elim
  | .ok (.ret u), hq' =>
    obtain ⟨v, H', I3, rv, ev, q3⟩ := I2.after hq'
    subst ev
    exact ⟨rv, ⟨V.ref (s.heap.objs.size + 1), H', I3, rfl, q3⟩⟩

theorem runGK {k n : Nat} {f : Addr} {fd : FuncData} {ps ks : List Str} {sp : List V → Hp → VK → Prop} {pins : List (Addr × Obj)} {σ : St} {H : Hp} {s : Shared} {Q : VK} {us ws : List Value} {vs zs : List V} {gu : List Value → List Value → List Value} {gV : List V → List V → List V}
    (F : FnG X.prog X.w X.K X.mg X.base k f fd ps sp) (hr : Room k X.A) (hg : X.A.guards = some []) (hb : KBn X.K fd ps n ks gu gV) (I : Inv X pins σ H s) (r : Vals vs us) (rz : Vals zs ws) (hn : vs.length = n) (hz : zs.length = ks.length)
    (h : sp (gV vs zs) H Q) : wpAny (model X.prog X.w) X.A (PySem.call (.ref f) us (ks.zip ws)) (EP X pins σ Q) X.xe s := by
  have hb' := hb.to _ us ws I.kIn (by rw [← r.length, hn]) (by rw [← rz.length, hz])
  have rr := hb.rel r rz
  refine wpAny_call (codeAny_mono (F.run X.A X.stack s H ⟨us, ks.zip ws⟩ _ _ Q hr hg I.env0 hb' rr h) fun o s' hq => ?_)
  match o, hq with
  | .error e, hq => exact hq.elim
  | .ok (.ret u), hq => exact I.after hq

/-! ### worlds of a caller and of its callee -/
theorem RepO.stay {w' : Wd} {o : MObj} {a : Addr} (r : RepO Γ w o a) (st : Stay w w') (h : ∀ o, w.H a = Option.some o → w'.H a = Option.some o) : RepO Γ w' o a := by
  cases o with
  | lst xs => obtain ⟨vs, h1, r⟩ := r; exact ⟨vs, h _ h1, r.stay st⟩
  | dct t kvs => exact RepD.stay r st h
  | ins C fs => obtain ⟨dx, gs, h1, r⟩ := r; exact ⟨dx, gs, h _ h1, r.stay st⟩
theorem stayO (w : Wd) (O : Addr → Prop) : Stay w { w with O := O } := ⟨fun _ h => ⟨h, rfl⟩, fun _ _ => rfl, Nat.le_refl _⟩
theorem not_none {H H' : Hp} (hs : ∀ a o, H a = some o → H' a = some o) {a : Addr} (h : H a ≠ none) : H' a ≠ none := by
  rcases none_or (H := H) a with e | ⟨o, e⟩
  · exact absurd e h
  · rw [hs a o e]; exact fun z => nomatch z
theorem is_none {H H' : Hp} (hs : ∀ a o, H a = some o → H' a = some o) {a : Addr} (h : H' a = none) : H a = none := by
  rcases none_or (H := H) a with e | ⟨o, e⟩
  · exact e
  · rw [hs a o e] at h; cases h
theorem Wd.noO (k : WOK Γ w) : WOK Γ { w with O := fun _ => False } :=
  ⟨k.hF, fun _ h => h.elim, fun n o e => RepO.stay (k.obj n o e) (stayO w _) fun _ h => h, k.inj, k.lt, fun _ _ h => h, k.Fal, fun _ h => h.elim⟩
theorem backO (k : WOK Γ w) {w' : Wd} (l : LeE { w with O := fun _ => False } w') (k' : WOK Γ w') :
    ∃ w2 : Wd, w2.H = w'.H ∧ w2.M = w'.M ∧ LeE w w2 ∧ WOK Γ w2 ∧ Stay w' w2 := by
  have hO : ∀ a, w.O a → w'.H a ≠ none := fun a h z => by
    rcases none_or (H := w.H) a with e | ⟨o, e⟩
    · exact k.hO a h e
    · rw [l.le.keep a o e (k.Oal a h)] at z; cases z
  refine ⟨{ w' with O := w.O }, rfl, rfl, ⟨⟨l.le.keep, l.le.F, l.le.Fm, l.le.al, l.le.μ, l.le.nx, l.le.tr⟩, rfl⟩,
    ⟨k'.hF, hO, fun n o e => RepO.stay (k'.obj n o e) (stayO w' _) fun _ h => h, k'.inj, k'.lt, fun a h o => ?_, k'.Fal, fun a o h => ?_⟩, stayO w' _⟩
  · rcases l.le.Fm a h with z | z | z
    · exact k.FO a z o
    · exact k.hO a o z
    · exact k.Oal a o z
  · rcases l.le.al a h with z | z
    · exact k.hO a o z
    · exact k.Oal a o z
/-- what a def promises -/
def spC (Γ : Gam) (ev : List MV → Store → Res MV) (n : Nat) : List V → Hp → VK → Prop := fun vs H Q => vs.length = n ∧ ∃ w xs z M', w.H = H ∧ WOK Γ w ∧ (∀ a, ¬ w.O a) ∧ Reps Γ w xs vs ∧ ev xs w.M = .ok z M' ∧
  ∀ w' u, LeE w w' → WOK Γ w' → w'.M = M' → Rep Γ w' z u → Q u w'.H

/-- what the text's functions do, seen from a body -/
structure CallOk (Γ : Gam) (P : Program) (w₀ : World) (K : PySem.W.Frag) (mg : Str → Option Value) (base : Heap) (A : Around) (T : Tab) (call : Nat → List MV → Store → Res MV) (ad : Nat → Addr) : Prop where
  run : ∀ (X : Cx), X.prog = P → X.w = w₀ → X.K = K → X.mg = mg → X.base = base → X.A = A → ∀ (f : Nat) (xs : List MV) (z : MV) (w : Wd) (M' : Store), call f xs w.M = .ok z M' → T.ko f = false → ∀ (pins : List (Addr × Obj)) (σ : St) (s : Shared) (vs : List V) (us : List Value) (Q : VK), Inv X pins σ w.H s → WOK Γ w → Reps Γ w xs vs → Vals vs us →
    (∀ w' u, LeE w w' → WOK Γ w' → w'.M = M' → Rep Γ w' z u → Q u w'.H) → wpAny (model X.prog X.w) X.A (PySem.call (.ref (ad f)) us) (EP X pins σ Q) X.xe s
  mkr : ∀ (X : Cx), X.prog = P → X.w = w₀ → X.K = K → X.mg = mg → X.base = base → X.A = A → ∀ (C f : Nat) (xs : List MV) (w : Wd) (M' : Store), T.ini C = some f → T.ko f = false → call f (.ref w.M.nx :: xs) (w.M.add (.ins C [])) = .ok .non M' → ∀ (pins : List (Addr × Obj)) (σ : St) (s : Shared) (vs : List V) (us : List Value) (Q : VK), Inv X pins σ w.H s → WOK Γ w → Reps Γ w xs vs → Vals vs us →
    (∀ w' u, LeE w w' → WOK Γ w' → w'.M = M' → Rep Γ w' (.ref w.M.nx) u → Q u w'.H) → wpAny (model X.prog X.w) X.A (PySem.call (.ref (Γ.cl C)) us) (EP X pins σ Q) X.xe s
  mkk : ∀ (X : Cx), X.prog = P → X.w = w₀ → X.K = K → X.mg = mg → X.base = base → X.A = A → ∀ (C f np : Nat) (ks : List Str) (pat : List (Option MV)) (xs ys : List MV) (w : Wd) (M' : Store), (C, np, ks, pat) ∈ T.kw → T.ini C = some f → call f (.ref w.M.nx :: (xs ++ fillM pat ys)) (w.M.add (.ins C [])) = .ok .non M' → xs.length = np → ys.length = ks.length → ∀ (pins : List (Addr × Obj)) (σ : St) (s : Shared) (vs : List V) (us : List Value) (zs : List V) (ws : List Value) (Q : VK), Inv X pins σ w.H s → WOK Γ w → Reps Γ w xs vs → Vals vs us → Reps Γ w ys zs → Vals zs ws →
    (∀ w' u, LeE w w' → WOK Γ w' → w'.M = M' → Rep Γ w' (.ref w.M.nx) u → Q u w'.H) → wpAny (model X.prog X.w) X.A (PySem.call (.ref (Γ.cl C)) us (ks.zip ws)) (EP X pins σ Q) X.xe s
  clk : ∀ (X : Cx), X.prog = P → X.w = w₀ → X.K = K → X.mg = mg → X.base = base → X.A = A → ∀ (f np : Nat) (ks : List Str) (pat : List (Option MV)) (xs ys : List MV) (z : MV) (w : Wd) (M' : Store), (f, np, ks, pat) ∈ T.kf → call f (xs ++ fillM pat ys) w.M = .ok z M' → xs.length = np → ys.length = ks.length → ∀ (pins : List (Addr × Obj)) (σ : St) (s : Shared) (vs : List V) (us : List Value) (zs : List V) (ws : List Value) (Q : VK), Inv X pins σ w.H s → WOK Γ w → Reps Γ w xs vs → Vals vs us → Reps Γ w ys zs → Vals zs ws →
    (∀ w' u, LeE w w' → WOK Γ w' → w'.M = M' → Rep Γ w' z u → Q u w'.H) → wpAny (model X.prog X.w) X.A (PySem.call (.ref (ad f)) us (ks.zip ws)) (EP X pins σ Q) X.xe s
  kp : ∀ f, (T.fn f).isSome = true → PySem.W.keepIn K (.ref (ad f)) = true
  kc : ∀ C, (T.ini C).isSome = true → PySem.W.keepIn K (.ref (Γ.cl C)) = true
  mt : ∀ C m f, T.mt C m = some f → Cls K (Γ.cl C) ∧ Meth K (Γ.cl C) (Γ.nm m) (ad f)
/-- .. of a body -/
abbrev CallX (Γ : Gam) (X : Cx) (T : Tab) (call : Nat → List MV → Store → Res MV) (ad : Nat → Addr) : Prop := CallOk Γ X.prog X.w X.K X.mg X.base X.A T call ad

theorem run_spC {k n : Nat} {f : Addr} {fd : FuncData} {ps : List Str} {ev : List MV → Store → Res MV} {pins : List (Addr × Obj)} {σ : St} {s : Shared} {Q : VK} {us : List Value} {vs : List V} {xs : List MV} {z : MV} {M' : Store}
    (F : FnG X.prog X.w X.K X.mg X.base k f fd ps (spC Γ ev n)) (hr : Room k X.A) (hg : X.A.guards = some []) (hb : Binds X.K fd ps []) (I : Inv X pins σ w.H s) (kw : WOK Γ w) (rx : Reps Γ w xs vs) (r : Vals vs us)
    (hn : xs.length = n) (he : ev xs w.M = .ok z M') (q : ∀ w' u, LeE w w' → WOK Γ w' → w'.M = M' → Rep Γ w' z u → Q u w'.H) :
    wpAny (model X.prog X.w) X.A (PySem.call (.ref f) us) (EP X pins σ Q) X.xe s := by
  refine runG F hr hg hb I r ⟨by rw [← rx.length]; exact hn, { w with O := fun _ => False }, xs, z, M', rfl, Wd.noO kw, fun _ h => h, rx.stay (stayO w _), he, fun w' u l k' em rz => ?_⟩
  obtain ⟨w2, h2, m2, l2, k2, s2⟩ := backO kw l k'
  rw [← h2]
  exact q w2 u l2 k2 (m2.trans em) (rz.stay s2)
/-- a new instance stands -/
theorem mkWorld (k : WOK Γ w) {x dx : Addr} (C : Nat) (hx : w.H x = none) (hd : w.H dx = none) (hne : dx ≠ x) :
    ∃ w1 : Wd, w1.H = upd (upd w.H dx (.own x)) x (.ins (Γ.cl C) dx []) ∧ w1.M = w.M.add (.ins C []) ∧ WOK Γ w1 ∧ LeE w w1 ∧ w1.O = w.O ∧ w1.μ w.M.nx = x := by
  have hs : ∀ a o, w.H a = some o → upd (upd w.H dx (.own x)) x (.ins (Γ.cl C) dx []) a = some o := fun a o h => by
    rw [upd_ne (ne_of_none h hx), upd_ne (ne_of_none h hd)]; exact h
  have hlt : ∀ n o, w.M.ob n = some o → n ≠ w.M.nx := fun n o e => Nat.ne_of_lt (k.lt n o e)
  have hob : ∀ n o, (w.M.add (.ins C [])).ob n = some o → (n = w.M.nx ∧ o = .ins C []) ∨ (n ≠ w.M.nx ∧ w.M.ob n = some o) := fun n o e => by
    by_cases c : n = w.M.nx
    · rw [show (w.M.add (.ins C [])).ob n = if n = w.M.nx then some (.ins C []) else w.M.ob n from rfl, if_pos c] at e; cases e; exact .inl ⟨c, rfl⟩
    · rw [show (w.M.add (.ins C [])).ob n = if n = w.M.nx then some (.ins C []) else w.M.ob n from rfl, if_neg c] at e; exact .inr ⟨c, e⟩
  have hal : ∀ a, (∃ n o, (w.M.add (.ins C [])).ob n = some o ∧ (if n = w.M.nx then x else w.μ n) = a) → a = x ∨ w.al a := fun a ⟨n, o, e, h⟩ => by
    rcases hob n o e with ⟨c, _⟩ | ⟨c, e⟩
    · rw [if_pos c] at h; exact .inl h.symm
    · rw [if_neg c] at h; exact .inr ⟨n, o, e, h⟩
  refine ⟨⟨w.F, fun n => if n = w.M.nx then x else w.μ n, upd (upd w.H dx (.own x)) x (.ins (Γ.cl C) dx []), w.M.add (.ins C []), w.O⟩, rfl, rfl, ?_, ?_, rfl, if_pos rfl⟩
  · have st : Stay w ⟨w.F, fun n => if n = w.M.nx then x else w.μ n, upd (upd w.H dx (.own x)) x (.ins (Γ.cl C) dx []), w.M.add (.ins C []), w.O⟩ := by
      refine ⟨fun a h => ⟨h, ?_⟩, fun n h => if_neg (Nat.ne_of_lt h), Nat.le_succ _⟩
      rcases none_or (H := w.H) a with e | ⟨o, e⟩
      · exact absurd e (k.hF a h)
      · exact (hs a o e).trans e.symm
    refine ⟨fun a h => ?_, fun a h => ?_, fun n o e => ?_, fun n m o p e1 e2 e3 => ?_, fun n o e => ?_, k.FO, fun a h h2 => ?_, fun a h h2 => ?_⟩
    · exact not_none hs (k.hF a h)
    · exact not_none hs (k.hO a h)
    · rcases hob n o e with ⟨c, rfl⟩ | ⟨c, e⟩
      · exact ⟨dx, [], by show upd _ _ _ (if n = w.M.nx then x else w.μ n) = _; rw [if_pos c, upd_same], .nil⟩
      · have ro := k.obj n o e
        have em : (fun n => if n = w.M.nx then x else w.μ n) n = w.μ n := if_neg c
        show RepO Γ _ o ((fun n => if n = w.M.nx then x else w.μ n) n)
        rw [em]
        cases o with
        | lst xs => obtain ⟨vs, h, r⟩ := ro; exact ⟨vs, hs _ _ h, r.stay st⟩
        | dct t kvs => exact RepD.stay ro st fun o h => hs _ _ h
        | ins C fs => obtain ⟨dx, gs, h, r⟩ := ro; exact ⟨dx, gs, hs _ _ h, r.stay st⟩
    · have hx' : ∀ n o, w.M.ob n = some o → w.μ n ≠ x := fun n o e z => by
        have := k.hal ⟨n, o, e, z⟩
        exact this hx
      have e3' : (if n = w.M.nx then x else w.μ n) = (if m = w.M.nx then x else w.μ m) := e3
      rcases hob n o e1 with ⟨c1, _⟩ | ⟨c1, e1⟩ <;> rcases hob m p e2 with ⟨c2, _⟩ | ⟨c2, e2⟩
      · rw [c1, c2]
      · rw [if_pos c1, if_neg c2] at e3'; exact absurd e3'.symm (hx' m p e2)
      · rw [if_neg c1, if_pos c2] at e3'; exact absurd e3' (hx' n o e1)
      · rw [if_neg c1, if_neg c2] at e3'; exact k.inj n m o p e1 e2 e3'
    · rcases hob n o e with ⟨c, _⟩ | ⟨c, e⟩
      · rw [c]; exact Nat.lt_succ_self _
      · exact Nat.lt_succ_of_lt (k.lt n o e)
    · rcases hal a h2 with z | z
      · subst z; exact k.hF a h hx
      · exact k.Fal a h z
    · rcases hal a h2 with z | z
      · subst z; exact k.hO a h hx
      · exact k.Oal a h z
  · refine ⟨⟨fun a o h _ => hs a o h, fun a h => h, fun a h => .inl h, fun a h => ?_, fun n h => if_neg (Nat.ne_of_lt h), Nat.le_succ _, fun a h => ?_⟩, rfl⟩
    · rcases hal a h with z | z
      · exact .inl (z ▸ hx)
      · exact .inr z
    · exact is_none hs h
theorem make_spC {k n : Nat} {f : Addr} {fd : FuncData} {ps : List Str} {ev : List MV → Store → Res MV} {pins : List (Addr × Obj)} {σ : St} {s : Shared} {Q : VK} {us : List Value} {vs : List V} {xs : List MV} {M' : Store} {C : Nat}
    (M : Mk X.K (Γ.cl C) f) (F : FnG X.prog X.w X.K X.mg X.base k f fd ps (spC Γ ev n)) (hr : Room (k + 1) X.A) (hg : X.A.guards = some []) (hb : Binds X.K fd ps []) (I : Inv X pins σ w.H s) (kw : WOK Γ w) (rx : Reps Γ w xs vs) (r : Vals vs us)
    (hn : xs.length + 1 = n) (he : ev (.ref w.M.nx :: xs) (w.M.add (.ins C [])) = .ok .non M') (q : ∀ w' u, LeE w w' → WOK Γ w' → w'.M = M' → Rep Γ w' (.ref w.M.nx) u → Q u w'.H) :
    wpAny (model X.prog X.w) X.A (PySem.call (.ref (Γ.cl C)) us) (EP X pins σ Q) X.xe s := by
  refine makeG M F hr hg hb I r fun x dx hx hd hne => ?_
  obtain ⟨w1, h1, m1, k1, l1, o1, e1⟩ := mkWorld kw C hx hd hne
  rw [← h1]
  have rx1 : Rep Γ w1 (.ref w.M.nx) (.ref x) := by
    have : Rep Γ w1 (.ref w.M.nx) (.ref (w1.μ w.M.nx)) := .ref (by rw [m1]; exact Nat.lt_succ_self _)
    rw [e1] at this; exact this
  refine ⟨by rw [List.length_cons, ← rx.length]; exact hn, { w1 with O := fun _ => False }, .ref w.M.nx :: xs, .non, M', rfl, Wd.noO k1, fun _ h => h, (Reps.cons rx1 (rx.stay (l1.stay kw))).stay (stayO w1 _), by rw [show ({ w1 with O := fun _ => False } : Wd).M = w1.M from rfl, m1]; exact he, fun w' u l k' em rz => ?_⟩
  obtain ⟨w2, h2, m2, l2, k2, s2⟩ := backO k1 l k'
  cases rz
  refine ⟨rfl, ?_⟩
  rw [← h2]
  exact q w2 (.ref x) (l1.trans l2) k2 (m2.trans em) (rx1.stay (l2.stay k1))
theorem fill_reps {w : Wd} : ∀ {p : List (Option MV)} {ms zs : List MV} {mv zv : List V}, Reps Γ w ms mv → Reps Γ w zs zv → Reps Γ w (fillG p ms zs) (fillG p mv zv)
  | [], _, _, _, _, _, _ => .nil
  | none :: p, _, _, _, _, a, .nil => .nil
  | none :: p, _, _, _, _, a, .cons r t => .cons r (fill_reps a t)
  | some _ :: p, _, _, _, _, .nil, b => .nil
  | some _ :: p, _, _, _, _, .cons r t, b => .cons r (fill_reps t b)
theorem make_spCK {k n np : Nat} {f : Addr} {fd : FuncData} {ps ks : List Str} {ev : List MV → Store → Res MV} {pins : List (Addr × Obj)} {σ : St} {s : Shared} {Q : VK} {us ws mv : List Value} {vs zs pv : List V} {xs ys : List MV} {M' : Store} {C : Nat} {pat : List (Option MV)}
    (M : Mk X.K (Γ.cl C) f) (F : FnG X.prog X.w X.K X.mg X.base k f fd ps (spC Γ ev n)) (hr : Room (k + 1) X.A) (hg : X.A.guards = some []) (hb : KBn X.K fd ps (np + 1) ks (fun us ws => us ++ fillG pat mv ws) (fun vs zs => vs ++ fillG pat pv zs)) (I : Inv X pins σ w.H s) (kw : WOK Γ w) (rx : Reps Γ w xs vs) (r : Vals vs us) (ry : Reps Γ w ys zs) (rz : Vals zs ws)
    (rp : ∀ w, WOK Γ w → Reps Γ w (pat.filterMap id) pv) (hnp : xs.length = np) (hks : ys.length = ks.length)
    (hn : (xs ++ fillM pat ys).length + 1 = n) (he : ev (.ref w.M.nx :: (xs ++ fillM pat ys)) (w.M.add (.ins C [])) = .ok .non M') (q : ∀ w' u, LeE w w' → WOK Γ w' → w'.M = M' → Rep Γ w' (.ref w.M.nx) u → Q u w'.H) :
    wpAny (model X.prog X.w) X.A (PySem.call (.ref (Γ.cl C)) us (ks.zip ws)) (EP X pins σ Q) X.xe s := by
  refine makeGK M F hr hg hb I r rz (by rw [← rx.length, hnp]) (by rw [← ry.length, hks]) fun x dx hx hd hne => ?_
  obtain ⟨w1, h1, m1, k1, l1, o1, e1⟩ := mkWorld kw C hx hd hne
  rw [← h1]
  have rx1 : Rep Γ w1 (.ref w.M.nx) (.ref x) := by
    have : Rep Γ w1 (.ref w.M.nx) (.ref (w1.μ w.M.nx)) := .ref (by rw [m1]; exact Nat.lt_succ_self _)
    rw [e1] at this; exact this
  have rall : Reps Γ w1 (.ref w.M.nx :: (xs ++ fillM pat ys)) (.ref x :: (vs ++ fillG pat pv zs)) := .cons rx1 ((rx.stay (l1.stay kw)).append (fill_reps (rp w1 k1) (ry.stay (l1.stay kw))))
  refine ⟨by have := rall.length; rw [List.length_cons] at this; show (V.ref x :: (vs ++ fillG pat pv zs)).length = n; rw [← this]; exact hn, { w1 with O := fun _ => False }, .ref w.M.nx :: (xs ++ fillM pat ys), .non, M', rfl, Wd.noO k1, fun _ h => h, rall.stay (stayO w1 _), by rw [show ({ w1 with O := fun _ => False } : Wd).M = w1.M from rfl, m1]; exact he, fun w' u l k' em rz => ?_⟩
  obtain ⟨w2, h2, m2, l2, k2, s2⟩ := backO k1 l k'
  cases rz
  refine ⟨rfl, ?_⟩
  rw [← h2]
  exact q w2 (.ref x) (l1.trans l2) k2 (m2.trans em) (rx1.stay (l2.stay k1))
theorem run_spCK {k n np : Nat} {f : Addr} {fd : FuncData} {ps ks : List Str} {ev : List MV → Store → Res MV} {pins : List (Addr × Obj)} {σ : St} {s : Shared} {Q : VK} {us ws mv : List Value} {vs zs pv : List V} {xs ys : List MV} {z : MV} {M' : Store} {pat : List (Option MV)}
    (F : FnG X.prog X.w X.K X.mg X.base k f fd ps (spC Γ ev n)) (hr : Room k X.A) (hg : X.A.guards = some []) (hb : KBn X.K fd ps np ks (fun us ws => us ++ fillG pat mv ws) (fun vs zs => vs ++ fillG pat pv zs)) (I : Inv X pins σ w.H s) (kw : WOK Γ w) (rx : Reps Γ w xs vs) (r : Vals vs us) (ry : Reps Γ w ys zs) (rz : Vals zs ws)
    (rp : ∀ w, WOK Γ w → Reps Γ w (pat.filterMap id) pv) (hnp : xs.length = np) (hks : ys.length = ks.length)
    (hn : (xs ++ fillM pat ys).length = n) (he : ev (xs ++ fillM pat ys) w.M = .ok z M') (q : ∀ w' u, LeE w w' → WOK Γ w' → w'.M = M' → Rep Γ w' z u → Q u w'.H) :
    wpAny (model X.prog X.w) X.A (PySem.call (.ref f) us (ks.zip ws)) (EP X pins σ Q) X.xe s := by
  have rall : Reps Γ w (xs ++ fillM pat ys) (vs ++ fillG pat pv zs) := rx.append (fill_reps (rp w kw) ry)
  refine runGK F hr hg hb I r rz (by rw [← rx.length, hnp]) (by rw [← ry.length, hks]) ⟨by rw [← rall.length]; exact hn, { w with O := fun _ => False }, xs ++ fillM pat ys, z, M', rfl, Wd.noO kw, fun _ h => h, rall.stay (stayO w _), he, fun w' u l k' em rz => ?_⟩
  obtain ⟨w2, h2, m2, l2, k2, s2⟩ := backO kw l k'
  rw [← h2]
  exact q w2 u l2 k2 (m2.trans em) (rz.stay s2)
end
end Q

/-! EvI: calls as expressions, fields, isinstance, dict displays, methods of lists and dicts. -/
namespace Q
open PySem L2
def Bm.ty : Bm → String
  | .get2 => "dict" | _ => "list"
def Bm.nm : Bm → Str
  | .append => "append" | .pop => "pop" | .popAt => "pop" | .get2 => "get" | _ => ""
def Bm.id : Bm → String
  | .append => "list.append" | .pop => "list.pop" | .popAt => "list.pop" | .get2 => "dict.get" | _ => ""
def Bm.ok : Bm → Bool
  | .append | .pop | .popAt | .get2 => true
  | _ => false
section
variable {Γ : Gam} {X : Cx} {w w0 : Wd} {T : Tab} {cl : Nat → List MV → Store → Res MV} {ad : Nat → Addr}

theorem callK {pins : List (Addr × Obj)} {σ : St} {H : Hp} {s : Shared} {Q : VK} {f : Value} {first : List Value} {es : List Expr} {fs : EVs} {pos : Pos} (ha : ArgK Γ X fs es) (I : Inv X pins σ H s) (hk : PySem.W.keepIn X.K f = true) (R : List V → Hp → Prop)
    (h : RDk Γ fs σ H R) (hc : ∀ us s1 vs H1, Inv X pins σ H1 s1 → Vals vs us → R vs H1 → wpAny (model X.prog X.w) X.A (PySem.call f (first ++ us)) (EP X pins σ Q) X.xe s1) :
    wpAny (model X.prog X.w) X.A (callWith pos f first (backTo pos (starEach es X.env)) (backToKw pos (keywordEach [] X.env))) (EP X pins σ Q) X.xe s := by
  have hrun := ha.pa.run pos pins s σ H R I h
  cases es with
  | nil => exact PySem.W.callWith_K0 I.kIn hk (hc [] s [] H I .nil (ha.nl rfl σ H R h))
  | cons e es =>
    have he : starEach (e :: es) X.env = (false, eval e X.env) :: starEach es X.env := ha.ns e (List.mem_cons_self ..) _ _
    have hpl := star_any (fun y hy => ha.ns y (List.mem_cons_of_mem _ hy)) pos X.env
    exact PySem.W.callWith_K (h₀ := X.base) I.ok.mod.kin hk (thn hrun fun us s1 ⟨vs, H1, I1, r, q⟩ => ⟨I1.kIn, hc us s1 vs H1 I1 r q⟩) he hpl

/-! ### f(..) -/
def fCall (cl : Nat → List MV → Store → Res MV) (f : Nat) (fs : EVs) : EV := fun ρ M => (fs ρ M).bind fun ys M2 => cl f ys M2
theorem s_call (g : Gd Γ X) (C : CallX Γ X T cl ad) {f : Nat} {x : Str} {es : List Expr} {fs : EVs} {p pos : Pos} (hf : (T.fn f).isSome = true) (hko : T.ko f = false) (hg : Gl X x) (hm : X.mg x = some (.ref (ad f))) (hdb : (x == ("__debug__" : Str)) = false)
    (ha : ArgK Γ X fs es) : Snd Γ X (fCall cl f fs) (.Call (.Name x p) es [] pos) := by
  refine .of_pe g ⟨fun pins s σ H Q I h => ?_⟩ (fun _ => rfl) (fun _ _ _ z => nomatch z)
  refine wpAny_Call_Name_kw (ld_glob I hg hm ?_ hdb)
  obtain ⟨w, ρ, z, M', hH, k, L, e, q⟩ := h
  obtain ⟨ys, M1, e1, e2⟩ := bind_ok e
  refine callK (first := []) ha I (C.kp f hf) (fun vs H1 => ∃ w1, w1.H = H1 ∧ LeE w w1 ∧ WOK Γ w1 ∧ w1.M = M1 ∧ Reps Γ w1 ys vs) ⟨w, ρ, ys, M1, hH, k, L, e1, fun w1 us l1 k1 em r1 => ⟨w1, rfl, l1, k1, em, r1⟩⟩ ?_
  intro us s1 vs H1 I1 r ⟨w1, h1, l1, k1, em, r1⟩
  subst h1
  rw [← em] at e2
  exact C.run X rfl rfl rfl rfl rfl rfl f ys z w1 M' e2 hko pins σ s1 vs us Q I1 k1 r1 r fun w' u l' k' em' rz => q w' u (l1.trans l') k' em' rz.repV (.of_rep rz)

/-! ### C(..) -/
def fMake (T : Tab) (cl : Nat → List MV → Store → Res MV) (C : Nat) (fs : EVs) : EV := fun ρ M => (fs ρ M).bind fun ys M2 => match T.ini C with
    | some f => (cl f (.ref M2.nx :: ys) (M2.add (.ins C []))).bind fun r M3 => (match r with
      | .non => .ok (.ref M2.nx) M3
      | _ => .stuck)
    | none => .stuck
theorem s_make (g : Gd Γ X) (Ck : CallX Γ X T cl ad) {C : Nat} {x : Str} {es : List Expr} {fs : EVs} {p pos : Pos} (hko : ∀ f, T.ini C = some f → T.ko f = false) (hg : Gl X x) (hm : X.mg x = some (.ref (Γ.cl C))) (hdb : (x == ("__debug__" : Str)) = false)
    (ha : ArgK Γ X fs es) : Snd Γ X (fMake T cl C fs) (.Call (.Name x p) es [] pos) := by
  refine .of_pe g ⟨fun pins s σ H Q I h => ?_⟩ (fun _ => rfl) (fun _ _ _ z => nomatch z)
  refine wpAny_Call_Name_kw (ld_glob I hg hm ?_ hdb)
  obtain ⟨w, ρ, z, M', hH, k, L, e, q⟩ := h
  obtain ⟨ys, M1, e1, e2⟩ := bind_ok e
  split at e2
  · rename_i f ef
    obtain ⟨r, M3, e3, e4⟩ := bind_ok e2
    cases r with
    | non =>
      cases e4
      refine callK (first := []) ha I (Ck.kc C (by rw [ef]; rfl)) (fun vs H1 => ∃ w1, w1.H = H1 ∧ LeE w w1 ∧ WOK Γ w1 ∧ w1.M = M1 ∧ Reps Γ w1 ys vs) ⟨w, ρ, ys, M1, hH, k, L, e1, fun w1 us l1 k1 em r1 => ⟨w1, rfl, l1, k1, em, r1⟩⟩ ?_
      intro us s1 vs H1 I1 r ⟨w1, h1, l1, k1, em, r1⟩
      subst h1
      rw [← em] at e3 q
      exact Ck.mkr X rfl rfl rfl rfl rfl rfl C f ys w1 M' ef (hko f ef) e3 pins σ s1 vs us Q I1 k1 r1 r fun w' u l' k' em' rz => q w' u (l1.trans l') k' em' rz.repV (.of_rep rz)
    | _ => cases e4
  · cases e2

/-! ### C(.., k = ..) -/
theorem s_kcons {f : EV} {fs : EVs} {nm : Option Str} {e : Expr} {kpos : Pos} {kws : List Keyword} (he : PE X e (RD Γ f)) (hes : PK X kws (RDk Γ fs)) : PK X (⟨nm, e, kpos⟩ :: kws) (RDk Γ (fkCons f fs)) := ⟨fun pos pins s σ H Q I h => (pk_cons he hes).run pos pins s σ H Q I (by
  obtain ⟨w, ρ, vs, M', hH, k, L, e, q⟩ := h
  obtain ⟨x, M1, e1, e2⟩ := bind_ok e
  obtain ⟨y, M2, e3, e4⟩ := bind_ok e2
  obtain ⟨e3', rfl⟩ := ofO_ok e3
  obtain ⟨ys, M3, e5, e6⟩ := bind_ok e4
  cases e6
  refine ⟨w, ρ, x, _, hH, k, L, e1, fun w1 u l1 k1 em r1 n1 => ?_⟩
  obtain ⟨w2, h2, m2, o2, k2, l2, s2, r2⟩ := r1.keep k1 l1 n1 e3'
  rw [← h2]
  refine ⟨w2, ρ, ys, M', rfl, k2, L.le l2 k, by rw [m2, em]; exact e5, fun w3 us l3 k3 em3 r3 => ?_⟩
  exact q w3 (u :: us) (l2.trans l3) k3 em3 (.cons (r2.stay (l3.stay k2)) r3))⟩
theorem s_knil : PK X [] (RDk Γ fNil) := ⟨fun pos pins s σ H Q I h => pk_nil.run pos pins s σ H Q I (by
  obtain ⟨w, ρ, vs, M', hH, k, L, e, q⟩ := h
  cases e
  rw [← hH]
  exact q w [] (LeE.refl w) k rfl .nil)⟩
theorem kw_fst (pos : Pos) (env : PySem.Env) : ∀ kws : List Keyword, (backToKw pos (keywordEach kws env)).map (·.1) = kws.map (·.arg)
  | [] => rfl
  | ⟨a, v, p⟩ :: kws => by
    have := kw_fst pos env kws
    show a :: (backToKw pos (keywordEach kws env)).map (·.1) = a :: kws.map (·.arg)
    rw [this]
theorem kw_all {pos : Pos} {env : PySem.Env} {kws : List Keyword} (h : kws.all (·.arg.isSome) = true) : ((backToKw pos (keywordEach kws env)).all fun x => x.1.isSome) = true := by
  have e : ((backToKw pos (keywordEach kws env)).map (·.1)).all (·.isSome) = true := by rw [kw_fst, List.all_map]; exact h
  rw [List.all_map] at e
  exact e
theorem kw_none {pos : Pos} {env : PySem.Env} {kws : List Keyword} (h : kws.all (·.arg.isSome) = true) : ((backToKw pos (keywordEach kws env)).any fun x => x.1.isNone) = false := by
  have := kw_all (pos := pos) (env := env) h
  rw [List.any_eq_false]
  intro x hx
  have := List.all_eq_true.mp this x hx
  cases hx1 : x.1 with
  | none => rw [hx1] at this; cases this
  | some _ => simp
theorem kw_names {pos : Pos} {env : PySem.Env} {kws : List Keyword} : (backToKw pos (keywordEach kws env)).filterMap (·.1) = kws.filterMap (·.arg) := by
  have e := kw_fst pos env kws
  have h1 : (backToKw pos (keywordEach kws env)).filterMap (·.1) = ((backToKw pos (keywordEach kws env)).map (·.1)).filterMap id := by rw [List.filterMap_map]; rfl
  have h2 : kws.filterMap (·.arg) = (kws.map (·.arg)).filterMap id := by rw [List.filterMap_map]; rfl
  rw [h1, h2, e]
def fMakeK (T : Tab) (cl : Nat → List MV → Store → Res MV) (C np : Nat) (fs : EVs) (pat : List (Option MV)) (fks : EVs) : EV := fun ρ M => (fs ρ M).bind fun ys M1 => (fks ρ M1).bind fun zs M2 => match T.ini C with
    | some f => if ys.length = np ∧ zs.length = (pat.filter (·.isNone)).length then (cl f (.ref M2.nx :: (ys ++ fillM pat zs)) (M2.add (.ins C []))).bind fun r M3 => (match r with
      | .non => .ok (.ref M2.nx) M3
      | _ => .stuck) else .stuck
    | none => .stuck
theorem s_makeK (g : Gd Γ X) (Ck : CallX Γ X T cl ad) {C np : Nat} {x : Str} {e : Expr} {es : List Expr} {kws : List Keyword} {fs fks : EVs} {ks : List Str} {pat : List (Option MV)} {p pos : Pos} (hkw : (C, np, ks, pat) ∈ T.kw) (hkn : ks.length = (pat.filter (·.isNone)).length)
    (hg : Gl X x) (hm : X.mg x = some (.ref (Γ.cl C))) (hdb : (x == ("__debug__" : Str)) = false) (ha : ArgK Γ X fs (e :: es)) (hk : PK X kws (RDk Γ fks)) (hka : kws.all (·.arg.isSome) = true) (hks : kws.filterMap (·.arg) = ks) :
    Snd Γ X (fMakeK T cl C np fs pat fks) (.Call (.Name x p) (e :: es) kws pos) := by
  refine .of_pe g ⟨fun pins s σ H Q I h => ?_⟩ (fun _ => rfl) (fun _ _ _ z => nomatch z)
  refine wpAny_Call_Name_kw (ld_glob I hg hm ?_ hdb)
  obtain ⟨w, ρ, z, M', hH, k, L, ez, q⟩ := h
  obtain ⟨ys, M1, e1, e2⟩ := bind_ok ez
  obtain ⟨zs, M2, e3, e4⟩ := bind_ok e2
  split at e4
  · rename_i f ef
    obtain ⟨⟨hn1, hn2⟩, e4⟩ := ite_ok e4
    obtain ⟨r, M3, e5, e6⟩ := bind_ok e4
    cases r with
    | non =>
      cases e6
      have he : starEach (e :: es) X.env = (false, eval e X.env) :: starEach es X.env := ha.ns e (List.mem_cons_self ..) _ _
      have hpl : (((backTo pos (starEach (e :: es) X.env)).any fun x => x.1) || (backToKw pos (keywordEach kws X.env)).any fun x => x.1.isNone) = false := by
        rw [star_any ha.ns, kw_none hka]; rfl
      refine PySem.W.callWith_KW (h₀ := X.base) (first := []) I.ok.mod.kin (Ck.kc C (by rw [ef]; rfl)) (kw_all hka) ?_ hpl he
      refine thn (ha.pa.run pos pins s σ H (fun vs H1 => ∃ w1, w1.H = H1 ∧ LeE w w1 ∧ WOK Γ w1 ∧ w1.M = M1 ∧ Reps Γ w1 ys vs) I ⟨w, ρ, ys, M1, hH, k, L, e1, fun w1 us l1 k1 em r1 => ⟨w1, rfl, l1, k1, em, r1⟩⟩) fun us s1 ⟨vs, H1, I1, r, w1, h1, l1, k1, em, r1⟩ => ?_
      subst h1
      refine thn (hk.run pos pins s1 σ w1.H (fun vs H2 => ∃ w2, w2.H = H2 ∧ LeE w1 w2 ∧ WOK Γ w2 ∧ w2.M = M2 ∧ Reps Γ w2 zs vs) I1 ⟨w1, ρ, zs, M2, rfl, k1, L.le l1 k, by rw [em]; exact e3, fun w2 us l2 k2 em2 r2 => ⟨w2, rfl, l2, k2, em2, r2⟩⟩) fun ws s2 ⟨vz, H2, I2, rz, w2, h2, l2, k2, em2, r2⟩ => ⟨I2.kIn, ?_⟩
      subst h2
      rw [kw_names, hks]
      rw [← em2] at e5 q
      exact Ck.mkk X rfl rfl rfl rfl rfl rfl C f np ks pat ys zs w2 M' hkw ef e5 hn1 (by rw [hn2, hkn]) pins σ s2 vs us vz ws Q I2 k2 (r1.stay (l2.stay k1)) r r2 rz fun w' u l' k' em' rz => q w' u ((l1.trans l2).trans l') k' em' rz.repV (.of_rep rz)
    | _ => cases e6
  · cases e4

/-! ### f(.., k = ..) -/
def fCallK (cl : Nat → List MV → Store → Res MV) (f np : Nat) (fs : EVs) (pat : List (Option MV)) (fks : EVs) : EV := fun ρ M => (fs ρ M).bind fun ys M1 => (fks ρ M1).bind fun zs M2 => if ys.length = np ∧ zs.length = (pat.filter (·.isNone)).length then cl f (ys ++ fillM pat zs) M2 else .stuck
theorem s_callK (g : Gd Γ X) (Ck : CallX Γ X T cl ad) {f np : Nat} {x : Str} {e : Expr} {es : List Expr} {kws : List Keyword} {fs fks : EVs} {ks : List Str} {pat : List (Option MV)} {p pos : Pos} (hf : (T.fn f).isSome = true) (hkw : (f, np, ks, pat) ∈ T.kf) (hkn : ks.length = (pat.filter (·.isNone)).length)
    (hg : Gl X x) (hm : X.mg x = some (.ref (ad f))) (hdb : (x == ("__debug__" : Str)) = false) (ha : ArgK Γ X fs (e :: es)) (hk : PK X kws (RDk Γ fks)) (hka : kws.all (·.arg.isSome) = true) (hks : kws.filterMap (·.arg) = ks) :
    Snd Γ X (fCallK cl f np fs pat fks) (.Call (.Name x p) (e :: es) kws pos) := by
  refine .of_pe g ⟨fun pins s σ H Q I h => ?_⟩ (fun _ => rfl) (fun _ _ _ z => nomatch z)
  refine wpAny_Call_Name_kw (ld_glob I hg hm ?_ hdb)
  obtain ⟨w, ρ, z, M', hH, k, L, ez, q⟩ := h
  obtain ⟨ys, M1, e1, e2⟩ := bind_ok ez
  obtain ⟨zs, M2, e3, e4⟩ := bind_ok e2
  obtain ⟨⟨hn1, hn2⟩, e5⟩ := ite_ok e4
  have he : starEach (e :: es) X.env = (false, eval e X.env) :: starEach es X.env := ha.ns e (List.mem_cons_self ..) _ _
  have hpl : (((backTo pos (starEach (e :: es) X.env)).any fun x => x.1) || (backToKw pos (keywordEach kws X.env)).any fun x => x.1.isNone) = false := by
    rw [star_any ha.ns, kw_none hka]; rfl
  refine PySem.W.callWith_KW (h₀ := X.base) (first := []) I.ok.mod.kin (Ck.kp f hf) (kw_all hka) ?_ hpl he
  refine thn (ha.pa.run pos pins s σ H (fun vs H1 => ∃ w1, w1.H = H1 ∧ LeE w w1 ∧ WOK Γ w1 ∧ w1.M = M1 ∧ Reps Γ w1 ys vs) I ⟨w, ρ, ys, M1, hH, k, L, e1, fun w1 us l1 k1 em r1 => ⟨w1, rfl, l1, k1, em, r1⟩⟩) fun us s1 ⟨vs, H1, I1, r, w1, h1, l1, k1, em, r1⟩ => ?_
  subst h1
  refine thn (hk.run pos pins s1 σ w1.H (fun vs H2 => ∃ w2, w2.H = H2 ∧ LeE w1 w2 ∧ WOK Γ w2 ∧ w2.M = M2 ∧ Reps Γ w2 zs vs) I1 ⟨w1, ρ, zs, M2, rfl, k1, L.le l1 k, by rw [em]; exact e3, fun w2 us l2 k2 em2 r2 => ⟨w2, rfl, l2, k2, em2, r2⟩⟩) fun ws s2 ⟨vz, H2, I2, rz, w2, h2, l2, k2, em2, r2⟩ => ⟨I2.kIn, ?_⟩
  subst h2
  rw [kw_names, hks]
  rw [← em2] at e5
  exact Ck.clk X rfl rfl rfl rfl rfl rfl f np ks pat ys zs z w2 M' hkw e5 hn1 (by rw [hn2, hkn]) pins σ s2 vs us vz ws Q I2 k2 (r1.stay (l2.stay k1)) r r2 rz fun w' u l' k' em' rz => q w' u ((l1.trans l2).trans l') k' em' rz.repV (.of_rep rz)

/-! ### list(range(a, b)) -/
def fLrg (fa fb : EV) : EV := fun ρ M => (fa ρ M).bind fun x M1 => (fb ρ M1).bind fun y M2 => match x, y with
    | .int i, .int j => if (-1000000 < i ∧ i < 1000000) ∧ -1000000 < j ∧ j < 1000000 then .ok (.lst .nw (rangeL i j)) M2 else .stuck
    | _, _ => .stuck
theorem rg_reps {w : Wd} (i j : Int) : Reps Γ w (rangeL i j) (rgV i j) := by
  have : ∀ ks : List Nat, Reps Γ w (ks.map fun (k : Nat) => MV.int (i + k)) (ks.map fun (k : Nat) => V.int (i + k)) := fun ks => by
    induction ks with
    | nil => exact .nil
    | cons k ks ih => exact .cons (.int _) ih
  exact this _
theorem s_lrg (g : Gd Γ X) {fa fb : EV} {a b : Expr} {p p2 pos pos2 : Pos} (hg : Gl X "list") (hm : X.mg "list" = none) (hg2 : Gl X "range") (hm2 : X.mg "range" = none) (ha : Snd Γ X fa a) (hb : Snd Γ X fb b) (na : NoStar a) (nb : NoStar b) :
    Snd Γ X (fLrg fa fb) (.Call (.Name "list" p) [.Call (.Name "range" p2) [a, b] [] pos2] [] pos) := by
  have hst : ((backTo pos2 (starEach [b] X.env)).any fun x => x.1) = false := star_any (fun y hy => by rw [List.mem_singleton.mp hy]; exact nb) _ _
  refine .of_pe g ((pe_listRg g.calm hg hm (prg_2 hg2 hm2 ha.pe hb.pe (na _ _) (nb _ _) hst) rfl).imp fun σ H Q h => ?_) (fun _ => rfl) (fun _ _ _ z => nomatch z)
  obtain ⟨w, ρ, z, M', hH, k, L, e, q⟩ := h
  obtain ⟨x, M1, e1, e2⟩ := bind_ok e
  obtain ⟨y, M2, e3, e4⟩ := bind_ok e2
  refine ⟨w, ρ, x, _, hH, k, L, e1, fun w1 u l1 k1 em r1 n1 => ?_⟩
  subst em
  refine ⟨w1, ρ, y, _, rfl, k1, L.le l1 k, e3, fun w2 v l2 k2 em2 r2 n2 => ?_⟩
  split at e4
  · rename_i i j
    obtain ⟨hc, e5⟩ := ite_ok e4
    cases e5
    have hu : u = .int i := by cases (show Rep Γ w1 (.int i) u from r1); rfl
    have hv : v = .int j := by cases (show Rep Γ w2 (.int j) v from r2); rfl
    refine ⟨i, j, hu, hv, ⟨by omega, by omega, by omega, by omega, by omega⟩, fun p hp => ?_⟩
    exact doneL k2 hp (rg_reps i j) fun w' t l k' em' r n => q w' t ((l1.trans l2).trans l) k' (em'.trans em2) r (n.le (l1.trans l2))
  · cases e4

def fRg1 (t : Bool) (fa : EV) : EV := fun ρ M => (fa ρ M).bind fun x M1 => match x with
    | .int j => if -1000000 < j ∧ j < 1000000 then .ok (if t = true then .tup (rangeL 0 j) else .lst .nw (rangeL 0 j)) M1 else .stuck
    | _ => .stuck
theorem s_rg1 (g : Gd Γ X) {t : Bool} {fa : EV} {a : Expr} {x : Str} {p p2 pos pos2 : Pos} (hx : x = if t = true then ("tuple" : Str) else "list") (hg : Gl X x) (hm : X.mg x = none) (hg2 : Gl X "range") (hm2 : X.mg "range" = none) (ha : Snd Γ X fa a) (na : NoStar a) :
    Snd Γ X (fRg1 t fa) (.Call (.Name x p) [.Call (.Name "range" p2) [a] [] pos2] [] pos) := by
  cases t with
  | false =>
    rw [if_neg Bool.false_ne_true] at hx
    subst hx
    refine .of_pe g ((pe_listRg g.calm hg hm (prg_1 hg2 hm2 ha.pe (na _ _)) rfl).imp fun σ H Q h => ?_) (fun _ => rfl) (fun _ _ _ z => nomatch z)
    obtain ⟨w, ρ, z, M', hH, k, L, e, q⟩ := h
    obtain ⟨x, M1, e1, e2⟩ := bind_ok e
    refine ⟨w, ρ, x, _, hH, k, L, e1, fun w1 u l1 k1 em r1 n1 => ?_⟩
    subst em
    split at e2
    · rename_i j
      obtain ⟨hc, e5⟩ := ite_ok e2
      rw [if_neg Bool.false_ne_true] at e5
      cases e5
      have hu : u = .int j := by cases (show Rep Γ w1 (.int j) u from r1); rfl
      refine ⟨j, hu, ⟨by omega, by omega, by omega, by omega, by omega⟩, fun p hp => ?_⟩
      exact doneL k1 hp (rg_reps 0 j) fun w' t l k' em' r n => q w' t (l1.trans l) k' em' r (n.le l1)
    · cases e2
  | true =>
    rw [if_pos rfl] at hx
    subst hx
    refine .of_pe g ((pe_tupRg g.calm hg hm (prg_1 hg2 hm2 ha.pe (na _ _)) rfl).imp fun σ H Q h => ?_) (fun _ => rfl) (fun _ _ _ z => nomatch z)
    obtain ⟨w, ρ, z, M', hH, k, L, e, q⟩ := h
    obtain ⟨x, M1, e1, e2⟩ := bind_ok e
    refine ⟨w, ρ, x, _, hH, k, L, e1, fun w1 u l1 k1 em r1 n1 => ?_⟩
    subst em
    split at e2
    · rename_i j
      obtain ⟨hc, e5⟩ := ite_ok e2
      rw [if_pos rfl] at e5
      cases e5
      have hu : u = .int j := by cases (show Rep Γ w1 (.int j) u from r1); rfl
      refine ⟨j, hu, ⟨by omega, by omega, by omega, by omega, by omega⟩, fun p hp => ?_⟩
      exact doneT k1 hp (rg_reps 0 j) fun w' t l k' em' r n => q w' t (l1.trans l) k' em' r (n.le l1)
    · cases e2

/-! ### D[k](..) -/
def fDisp (cl : Nat → List MV → Store → Res MV) (tb : List (Str × Nat)) (fk : EV) (fs : EVs) : EV := fun ρ M => (fk ρ M).bind fun x M1 => match x with
    | .str s => match tb.lookup s with
      | some f => (fs ρ M1).bind fun ys M2 => cl f ys M2
      | none => .stuck
    | _ => .stuck
open PySem.Spec PyProof.Rows in
theorem s_disp (g : Gd Γ X) (C : CallX Γ X T cl ad) {D : Str} {tb : List (Str × Nat)} {d : Addr} {k : Expr} {es : List Expr} {fk : EV} {fs : EVs} {p sp pos : Pos} (hg : Gl X D) (hm : X.mg D = some (.ref d)) (hdb : (D == ("__debug__" : Str)) = false)
    (ht : ∀ s f, tb.lookup s = some f → KDct X.K X.w d s (.ref (ad f)) ∧ (T.fn f).isSome = true ∧ T.ko f = false) (hk : Snd Γ X fk k) (hs : PlainIx k) (ha : ArgK Γ X fs es) :
    Snd Γ X (fDisp cl tb fk fs) (.Call (.Subscript (.Name D p) k sp) es [] pos) := by
  refine .of_pe g ⟨fun pins s σ H Q I h => ?_⟩ (fun _ => rfl) (fun _ _ _ z => nomatch z)
  obtain ⟨w, ρ, z, M', hH, k0, L, e, q⟩ := h
  obtain ⟨x, M1, e1, e2⟩ := bind_ok e
  have hfe : PE X (.Subscript (.Name D p) k sp) (tOp (rIxD X.K X.w) (tC (.ref d)) (RD Γ fk)) := pe_ix ix_kdict (pe_glob hg hm rfl hdb) hk.pe hs
  split at e2
  · rename_i str
    split at e2
    · rename_i f ef
      obtain ⟨ys, M2, e3, e4⟩ := bind_ok e2
      obtain ⟨hd, hf, hko⟩ := ht str f ef
      refine Call_ (thn (hfe.run pins s σ H (fun v H1 => v = .ref (ad f) ∧ ∃ w1, w1.H = H1 ∧ LeE w w1 ∧ WOK Γ w1 ∧ w1.M = M1) I ?_) fun u s1 ⟨y, H1, I1, ry, ey, w1, h1, l1, k1, em⟩ => ?_) rfl
      · exact ⟨w, ρ, .str str, M1, hH, k0, L, e1, fun w1 u l1 k1 em r1 n1 => ⟨d, str, .ref (ad f), rfl, by cases (show Rep Γ w1 (.str str) u from r1); rfl, hd, rfl, w1, rfl, l1, k1, em⟩⟩
      · subst ey
        obtain rfl : u = Value.ref (ad f) := ry
        subst h1
        refine callK (first := []) ha I1 (C.kp f hf) (fun vs H2 => ∃ w2, w2.H = H2 ∧ LeE w w2 ∧ WOK Γ w2 ∧ w2.M = M2 ∧ Reps Γ w2 ys vs) ⟨w1, ρ, ys, M2, rfl, k1, L.le l1 k0, by rw [em]; exact e3, fun w2 us l2 k2 em2 r2 => ⟨w2, rfl, l1.trans l2, k2, em2, r2⟩⟩ ?_
        intro us s2 vs H2 I2 r ⟨w2, h2, l2, k2, em2, r2⟩
        subst h2
        rw [← em2] at e4
        exact C.run X rfl rfl rfl rfl rfl rfl f ys z w2 M' e4 hko pins σ s2 vs us Q I2 k2 r2 r fun w' u l' k' em' rz => q w' u (l2.trans l') k' em' rz.repV (.of_rep rz)
    · cases e2
  · cases e2

/-! ### fields -/
theorem repF_get : ∀ {fs : List (Nat × MV)} {gs : List (Str × V)} {f : Nat}, RepF Γ w fs gs → (match getF fs f with | some m => ∃ u, gs.lookup (Γ.nm f) = some u ∧ Rep Γ w m u | none => gs.lookup (Γ.nm f) = none)
  | _, _, _, .nil => rfl
  | _, _, f, .cons (f := h) (x := x) (v := v) (xs := xs) (vs := vs) r t => by
    unfold getF
    by_cases e : h = f
    · subst e
      rw [if_pos rfl]
      exact ⟨v, by rw [List.lookup_cons]; simp, r⟩
    · rw [if_neg e]
      have ne : (Γ.nm f == Γ.nm h) = false := beq_eq_false_iff_ne.mpr fun z => e (Γ.ni _ _ z).symm
      have := repF_get (f := f) t
      rw [List.lookup_cons, ne]
      exact this
theorem insOf_read (k : WOK Γ w) {x : MV} {v : V} {n C : Nat} {fs : List (Nat × MV)} (r : RepV Γ w x v) (h : insOf w.M x = some (n, C, fs)) :
    x = .ref n ∧ v = .ref (w.μ n) ∧ w.M.ob n = some (.ins C fs) ∧ ∃ dx gs, w.H (w.μ n) = some (.ins (Γ.cl C) dx gs) ∧ RepF Γ w fs gs := by
  unfold insOf at h
  split at h
  · rename_i m
    split at h
    · rename_i D gs e
      cases h
      have ev : v = .ref (w.μ n) := by cases (show Rep Γ w _ _ from r); rfl
      exact ⟨rfl, ev, e, k.obj n _ e⟩
    · cases h
  · cases h
def fFld (T : Tab) (fo : EV) (f : Nat) : EV := fun ρ M => (fo ρ M).bind fun x M1 => match insOf M1 x with
    | some (_, C, fs) => if T.cf C f then ofO (getF fs f) M1 else .stuck
    | none => .stuck
theorem s_fld (g : Gd Γ X) (tg : TG Γ T) {fo : EV} {o : Expr} {f : Nat} {x : Str} {pos : Pos} (hx : x = Γ.nm f) (ho : Snd Γ X fo o) (hp : plainO o = true) : Snd Γ X (fFld T fo f) (.Attribute o x pos) :=
  .of_pe g ((pe_fld ho.pe (plainO_ok hp _ _ _)).imp fun σ H Q h => by
    obtain ⟨w, ρ, z, M', hH, k, L, e, q⟩ := h
    obtain ⟨x', M1, e1, e2⟩ := bind_ok e
    refine ⟨w, ρ, x', M1, hH, k, L, e1, fun w1 u l1 k1 em r1 n1 => ?_⟩
    subst em
    split at e2
    · rename_i n C fs ei
      obtain ⟨hc, e3⟩ := ite_ok e2
      obtain ⟨e4, rfl⟩ := ofO_ok e3
      obtain ⟨rfl, rfl, eo, dx, gs, h1, rf⟩ := insOf_read k1 r1 ei
      have hl := repF_get (f := f) rf
      rw [e4] at hl
      obtain ⟨u, hl, ru⟩ := hl
      obtain ⟨c1, c2⟩ := tg.cf C f hc
      rw [← g.K] at c1 c2
      subst hx
      exact ⟨_, _, dx, gs, u, rfl, h1, c1, c2, hl, q w1 u l1 k1 rfl ru.repV (.of_rep ru)⟩
    · cases e2) (fun _ => rfl) (fun _ _ _ z => nomatch z)

/-! ### o.m(..) -/
theorem meth_tree {o : Expr} {m : Str} {apos pos : Pos} {es : List Expr} {env : PySem.Env} (hb : attributeBase o m env (eval o env) = eval o env) (hf : (backTo pos (starEach es env)).all (fun x => !x.1) = true) (hn : es.length < 30) (hl : (apos.endLine == pos.line) = true) :
    eval (.Call (.Attribute o m apos) es [] pos) env = (do
      let ov ← eval o env
      standAt apos.atName
      let (f, first) ← holding [ov] (getMethod ov m (do return (← importBound o env).getD true))
      callWith pos f first (backTo pos (starEach es env)) (backToKw pos (keywordEach [] env))) := by
  have h1 : eval (.Call (.Attribute o m apos) es [] pos) env = (do
      let ov ← attributeBase o m env (eval o env)
      standAt apos.atName
      methodCall o m apos pos env ov (es.length + 0) (backTo pos (starEach es env)) (backToKw pos (keywordEach [] env))) := by rfl
  have h2 : methodCallForm (es.length + 0) (backTo pos (starEach es env)) (backToKw pos (keywordEach [] env)) = true := by
    show ((backTo pos (starEach es env)).all (fun x => !x.1) && true && decide (es.length + 0 + 0 < 30)) = true
    rw [hf, decide_eq_true (show es.length + 0 + 0 < 30 from hn)]
    rfl
  rw [h1, hb]
  unfold methodCall
  rw [h2]
  have h3 : methodCallPos true o env apos pos = pure pos := by
    unfold methodCallPos
    rw [hl]
    rfl
  rw [h3]
  rfl
def fMeth (T : Tab) (cl : Nat → List MV → Store → Res MV) (fo : EV) (m : Nat) (fs : EVs) : EV := fun ρ M => (fo ρ M).bind fun x M1 => match insOf M1 x with
    | some (n, C, gs) => match T.mt C m with
      | some f => if (getF gs m).isNone then (fs ρ M1).bind fun ys M3 => cl f (.ref n :: ys) M3 else .stuck
      | none => .stuck
    | none => .stuck
theorem s_meth (g : Gd Γ X) (Ck : CallX Γ X T cl ad) {fo : EV} {o : Expr} {m : Nat} {x : Str} {es : List Expr} {fs : EVs} {apos pos : Pos} (hx : x = Γ.nm m) (ho : Snd Γ X fo o) (hp : plainO o = true) (ha : ArgK Γ X fs es) (hn : es.length < 30) (hl : (apos.endLine == pos.line) = true)
    (hfn : ∀ C f, T.mt C m = some f → (T.fn f).isSome = true ∧ T.ko f = false) : Snd Γ X (fMeth T cl fo m fs) (.Call (.Attribute o x apos) es [] pos) := by
  refine .of_pe g ⟨fun pins s σ H Q I h => ?_⟩ (fun _ => rfl) (fun _ _ _ z => nomatch z)
  obtain ⟨w, ρ, z, M', hH, k, L, e, q⟩ := h
  obtain ⟨x', M1, e1, e2⟩ := bind_ok e
  refine PySem.W.methodCall_KW (pl := do return (← importBound o X.env).getD true) (thn (ho.pe.run pins s σ H (fun u H1 => ∃ w1, w1.H = H1 ∧ LeE w w1 ∧ WOK Γ w1 ∧ w1.M = M1 ∧ RepV Γ w1 x' u) I ⟨w, ρ, x', M1, hH, k, L, e1, fun w1 u l1 k1 em r1 n1 => ⟨w1, rfl, l1, k1, em, r1⟩⟩) fun u s1 ⟨v, H1, I1, rv, w1, h1, l1, k1, em, r1⟩ => ?_) (meth_tree (plainO_ok hp _ _ _) (star_all ha.ns pos X.env) hn hl)
  subst h1
  subst em
  split at e2
  · rename_i n C gs ei
    split at e2
    · rename_i f ef
      obtain ⟨hc, e3⟩ := ite_ok e2
      obtain ⟨ys, M3, e4, e5⟩ := bind_ok e3
      obtain ⟨rfl, rfl, eo, dx, gs', hh, rf⟩ := insOf_read k1 r1 ei
      obtain rfl : u = Value.ref (w1.μ n) := rv
      obtain ⟨c1, c2⟩ := Ck.mt C m f ef
      have hl := repF_get (f := m) rf
      have hnone : getF gs m = none := by
        cases hq : getF gs m with
        | none => rfl
        | some y => rw [hq] at hc; cases hc
      rw [hnone] at hl
      subst hx
      refine getmeth_ok I1 hh c1 c2 hl ?_
      refine callK (first := [.ref (w1.μ n)]) ha I1 c2.kp (fun vs H1 => ∃ w2, w2.H = H1 ∧ LeE w1 w2 ∧ WOK Γ w2 ∧ w2.M = M3 ∧ Reps Γ w2 ys vs) ⟨w1, ρ, ys, M3, rfl, k1, L.le l1 k, e4, fun w2 us l2 k2 em r2 => ⟨w2, rfl, l2, k2, em, r2⟩⟩ ?_
      intro us s2 vs H2 I2 r2 ⟨w2, h2, l2, k2, em, rs⟩
      subst h2
      rw [← em] at e5
      have rn : Rep Γ w2 (.ref n) (.ref (w1.μ n)) := (show Rep Γ w1 (.ref n) (.ref (w1.μ n)) from r1).stay (l2.stay k1)
      exact Ck.run X rfl rfl rfl rfl rfl rfl f (.ref n :: ys) z w2 M' e5 (hfn C f ef).2 pins σ s2 (.ref (w1.μ n) :: vs) (.ref (w1.μ n) :: us) Q I2 k2 (.cons rn rs) (.cons rfl r2) fun w' u l' k' em' rz => q w' u ((l1.trans l2).trans l') k' em' rz.repV (.of_rep rz)
    · cases e2
  · cases e2

/-! ### isinstance -/
def fIsin (T : Tab) (fa : EV) (t : Ty) : EV := fun ρ M => (fa ρ M).bind fun x M1 => ofO ((isTy T M1 x t).map .bl) M1
theorem s_isin (g : Gd Γ X) (tg : TG Γ T) {fa : EV} {e c : Expr} {t : Ty} {p pos : Pos} (ht : t.ok T = true) (hg : Gl X "isinstance") (hm : X.mg "isinstance" = none) (he : Snd Γ X fa e) (hc : PE X c (tC (t.u Γ))) (n1 : NoStar e) (n2 : NoStar c) :
    Snd Γ X (fIsin T fa t) (.Call (.Name "isinstance" p) [e, c] [] pos) := by
  refine .of_pe g ((pe_callB call_isi hg hm (by decide +kernel) (pa_cons he.pe (pa_cons hc pa_nil (n2 _ _)) (n1 _ _)) (by decide) (by decide) (n1 _ _) (star_any (fun y hy => by rw [List.mem_singleton.mp hy]; exact n2) pos X.env)).imp fun σ H Q h => ?_) (fun _ => rfl) (fun _ _ _ z => nomatch z)
  obtain ⟨w, ρ, z, M', hH, k, L, e', q⟩ := h
  obtain ⟨x, M1, e1, e2⟩ := bind_ok e'
  obtain ⟨e3, rfl⟩ := ofO_ok e2
  obtain ⟨b, e4, rfl⟩ := map_some e3
  refine ⟨w, ρ, x, _, hH, k, L, e1, fun w1 u l1 k1 em r1 n1 => ?_⟩
  subst em
  obtain ⟨tv, h1, h2⟩ := isTy_read tg k1 ht r1 e4
  rw [← g.K] at h1 h2
  exact ⟨u, t.u Γ, tv, t.v Γ, b, rfl, t.clsV Γ, h1, h2, q w1 _ l1 k1 rfl (Rep.bl b).repV trivial⟩

/-! ### the value that is shared at once -/
theorem share (k : WOK Γ w) {x : MV} {o : MObj} {a : Addr} (ho : (∃ xs, x = .lst .nw xs ∧ o = .lst xs) ∨ ∃ t kvs, x = .dct .nw t kvs ∧ o = .dct t kvs) (r : RepV Γ w x (.ref a)) (l : LeE w0 w) (n : New w0.H x (.ref a)) :
    ∃ w' : Wd, w'.H = w.H ∧ w'.M = w.M.add o ∧ WOK Γ w' ∧ LeE w0 w' ∧ Rep Γ w' (.ref w.M.nx) (.ref a) := by
  have key : w.H a ≠ none ∧ ¬ w.F a ∧ ¬ w.O a ∧ ¬ w.al a ∧ w0.H a = none ∧ RepO Γ w o a := by
    rcases ho with ⟨xs, rfl, rfl⟩ | ⟨t, kvs, rfl, rfl⟩
    · obtain ⟨b, vs, e, h, rs, n1, n2, n3⟩ := r
      cases e
      exact ⟨by rw [h]; exact (fun z => nomatch z), n1, n2, n3, n a rfl, vs, h, rs⟩
    · obtain ⟨b, e, hd, n1, n2, n3⟩ := r
      cases e
      obtain ⟨o, h⟩ := hd.some
      exact ⟨by rw [h]; exact (fun z => nomatch z), n1, n2, n3, n a rfl, hd⟩
  obtain ⟨h1, nF, nO, nal, h0, ro⟩ := key
  have hob : ∀ n o', (w.M.add o).ob n = some o' → (n = w.M.nx ∧ o' = o) ∨ (n ≠ w.M.nx ∧ w.M.ob n = some o') := fun n o' e => by
    by_cases c : n = w.M.nx
    · rw [show (w.M.add o).ob n = if n = w.M.nx then some o else w.M.ob n from rfl, if_pos c] at e; cases e; exact .inl ⟨c, rfl⟩
    · rw [show (w.M.add o).ob n = if n = w.M.nx then some o else w.M.ob n from rfl, if_neg c] at e; exact .inr ⟨c, e⟩
  have hal : ∀ b, (∃ n o', (w.M.add o).ob n = some o' ∧ (if n = w.M.nx then a else w.μ n) = b) → b = a ∨ w.al b := fun b ⟨n, o', e, h⟩ => by
    rcases hob n o' e with ⟨c, _⟩ | ⟨c, e⟩
    · rw [if_pos c] at h; exact .inl h.symm
    · rw [if_neg c] at h; exact .inr ⟨n, o', e, h⟩
  have st : Stay w ⟨w.F, fun n => if n = w.M.nx then a else w.μ n, w.H, w.M.add o, w.O⟩ := ⟨fun b h => ⟨h, rfl⟩, fun n h => if_neg (Nat.ne_of_lt h), Nat.le_succ _⟩
  refine ⟨⟨w.F, fun n => if n = w.M.nx then a else w.μ n, w.H, w.M.add o, w.O⟩, rfl, rfl, ⟨k.hF, k.hO, fun n o' e => ?_, fun n m o' p e1 e2 e3 => ?_, fun n o' e => ?_, k.FO, fun b h h2 => ?_, fun b h h2 => ?_⟩,
    ⟨⟨l.le.keep, l.le.F, l.le.Fm, fun b h => ?_, fun n h => (if_neg (Nat.ne_of_lt (Nat.lt_of_lt_of_le h l.le.nx))).trans (l.le.μ n h), Nat.le_succ_of_le l.le.nx, l.le.tr⟩, l.O⟩, ?_⟩
  · rcases hob n o' e with ⟨c, rfl⟩ | ⟨c, e⟩
    · show RepO Γ _ o' (if n = w.M.nx then a else w.μ n)
      rw [if_pos c]
      exact RepO.stay ro st fun _ h => h
    · show RepO Γ _ o' (if n = w.M.nx then a else w.μ n)
      rw [if_neg c]
      exact RepO.stay (k.obj n o' e) st fun _ h => h
  · have e3' : (if n = w.M.nx then a else w.μ n) = (if m = w.M.nx then a else w.μ m) := e3
    have hx : ∀ n o, w.M.ob n = some o → w.μ n ≠ a := fun n o e z => nal ⟨n, o, e, z⟩
    rcases hob n o' e1 with ⟨c1, _⟩ | ⟨c1, e1⟩ <;> rcases hob m p e2 with ⟨c2, _⟩ | ⟨c2, e2⟩
    · rw [c1, c2]
    · rw [if_pos c1, if_neg c2] at e3'; exact absurd e3'.symm (hx m p e2)
    · rw [if_neg c1, if_pos c2] at e3'; exact absurd e3' (hx n o' e1)
    · rw [if_neg c1, if_neg c2] at e3'; exact k.inj n m o' p e1 e2 e3'
  · rcases hob n o' e with ⟨c, _⟩ | ⟨c, e⟩
    · rw [c]; exact Nat.lt_succ_self _
    · exact Nat.lt_succ_of_lt (k.lt n o' e)
  · rcases hal b h2 with z | z
    · exact nF (z ▸ h)
    · exact k.Fal b h z
  · rcases hal b h2 with z | z
    · exact nO (z ▸ h)
    · exact k.Oal b h z
  · rcases hal b h with z | z
    · exact .inl (z ▸ h0)
    · exact l.le.al b z
  · have : Rep Γ ⟨w.F, fun n => if n = w.M.nx then a else w.μ n, w.H, w.M.add o, w.O⟩ (.ref w.M.nx) (.ref (if w.M.nx = w.M.nx then a else w.μ w.M.nx)) := .ref (Nat.lt_succ_self _)
    rw [if_pos rfl] at this
    exact this
def fShr (fa : EV) : EV := fun ρ M => (fa ρ M).bind fun x M1 => match x with
    | .lst .nw xs => .ok (.ref M1.nx) (M1.add (.lst xs))
    | _ => .stuck
theorem s_shr (g : Gd Γ X) {fa : EV} {es : List Expr} {pos : Pos} (h : Snd Γ X fa (.List es pos)) : Snd Γ X (fShr fa) (.List es pos) :=
  .of_pe g (h.pe.imp fun σ H Q h => by
    obtain ⟨w, ρ, z, M', hH, k, L, e, q⟩ := h
    obtain ⟨x, M1, e1, e2⟩ := bind_ok e
    refine ⟨w, ρ, x, M1, hH, k, L, e1, fun w1 u l1 k1 em r1 n1 => ?_⟩
    split at e2
    · rename_i xs
      cases e2
      have r1' := r1
      obtain ⟨a, vs, rfl, _⟩ := r1'
      obtain ⟨w2, h2, m2, k2, l2, r2⟩ := share k1 (.inl ⟨xs, rfl, rfl⟩) r1 l1 n1
      rw [← h2]
      rw [← em] at q
      exact q w2 _ l2 k2 m2 r2.repV trivial
    · cases e2) (fun _ => rfl) (fun _ _ _ z => nomatch z)

/-! ### dict displays -/
/-- a new object is written to -/
theorem poke (k : WOK Γ w) (l : LeE w0 w) {p : Addr} (o : HO) (h0 : w0.H p = none) (nF : ¬ w.F p) (nO : ¬ w.O p) (nal : ¬ w.al p) :
    WOK Γ { w with H := upd w.H p o } ∧ LeE w0 { w with H := upd w.H p o } ∧ Stay w { w with H := upd w.H p o } := by
  have hne : ∀ b, b ≠ p → upd w.H p o b = w.H b := fun b h => upd_ne h
  have st : Stay w { w with H := upd w.H p o } := ⟨fun b h => ⟨h, hne b fun z => nF (z ▸ h)⟩, fun _ _ => rfl, Nat.le_refl _⟩
  refine ⟨⟨fun b h => ?_, fun b h => ?_, fun n o' e => RepO.stay (k.obj n o' e) st fun q hq => (hne _ fun z => nal ⟨n, o', e, z⟩).trans hq, k.inj, k.lt, k.FO, k.Fal, k.Oal⟩,
    ⟨⟨fun b q hq hm => (hne b fun z => by rw [z, h0] at hq; cases hq).trans (l.le.keep b q hq hm), l.le.F, l.le.Fm, l.le.al, l.le.μ, l.le.nx, fun b h => ?_⟩, l.O⟩, st⟩
  · show upd w.H p o b ≠ none
    rw [hne b fun z => nF (z ▸ h)]; exact k.hF b h
  · show upd w.H p o b ≠ none
    rw [hne b fun z => nO (z ▸ h)]; exact k.hO b h
  · have h' : upd w.H p o b = none := h
    by_cases z : b = p
    · rw [z]; exact h0
    · rw [hne b z] at h'; exact l.le.tr b h'
def fDct0 (t : Bool) : EV := fun _ M => .ok (.dct .nw t []) M
theorem s_dct0 (g : Gd Γ X) {t : Bool} {pos : Pos} : Snd Γ X (fDct0 t) (.Dict [] [] pos) := by
  refine .of_pe g ?_ (fun _ => rfl) (fun _ _ _ z => nomatch z)
  cases t with
  | true =>
    refine pe_dnewT.imp fun σ H Q h p hp => ?_
    obtain ⟨w, ρ, z, M', hH, k, L, e, q⟩ := h
    cases e
    subst hH
    obtain ⟨w', h1, m1, k1, l1, r1⟩ := al_dctT k hp RepT.nil
    rw [← h1]
    exact q w' _ l1 k1 m1 r1 fun a e => by cases e; exact hp
  | false =>
    refine pe_dnewK.imp fun σ H Q h p hp => ?_
    obtain ⟨w, ρ, z, M', hH, k, L, e, q⟩ := h
    cases e
    subst hH
    obtain ⟨w', h1, m1, k1, l1, r1⟩ := al_dctK k hp RepK.nil
    rw [← h1]
    exact q w' _ l1 k1 m1 r1 fun a e => by cases e; exact hp
def fDct1 (t : Bool) (fk fv : EV) : EV := fun ρ M => (fk ρ M).bind fun x M1 => (ofO x.frz M1).bind fun x' M1' => (fv ρ M1').bind fun y M2 => (ofO y.frz M2).bind fun y' M3 => match keyT t x' with
      | some k => .ok (.dct .nw t [(k, y')]) M3
      | none => .stuck
theorem s_dct1 (g : Gd Γ X) {fk fv : EV} {k v : Expr} {pos : Pos} (hk : Snd Γ X fk k) (hv : Snd Γ X fv v) : Snd Γ X (fDct1 false fk fv) (.Dict [some k] [v] pos) := by
  refine .of_pe g ((pe_disp (pps_cons hk.pe hv.pe pps_nil) rfl rfl (by simp) (by simp)).imp fun σ H Q h p hp => ?_) (fun _ => rfl) (fun _ _ _ z => nomatch z)
  obtain ⟨w, ρ, z, M', hH, k0, L, e, q⟩ := h
  subst hH
  obtain ⟨x, M1, e1, e2⟩ := bind_ok e
  obtain ⟨x', M1', e3, e4⟩ := bind_ok e2
  obtain ⟨e3', rfl⟩ := ofO_ok e3
  obtain ⟨y, M2, e5, e6⟩ := bind_ok e4
  obtain ⟨y', M3, e7, e8⟩ := bind_ok e6
  obtain ⟨e7', rfl⟩ := ofO_ok e7
  split at e8
  · rename_i kk ek
    cases e8
    obtain ⟨w1, h1, m1, k1, l1, r1⟩ := al_dctK k0 hp RepK.nil
    obtain ⟨p', ep, d1, nF, nO, nal⟩ := r1
    cases ep
    rw [← h1]
    have hp1 : w1.H p = some (.dK []) := by rw [h1]; exact upd_same
    refine ⟨w1, ρ, x, _, rfl, k1, L.le l1 k0, by rw [m1]; exact e1, fun w2 u l2 k2 em r2 n2 => ?_⟩
    obtain ⟨w3, h3, m3, o3, k3, l3, s3, rk⟩ := r2.keep k2 l2 n2 e3'
    rw [← h3]
    refine ⟨w3, ρ, y, _, rfl, k3, (L.le l1 k0).le l3 k1, by rw [m3, em]; exact e5, fun w4 u4 l4 k4 em4 r4 n4 => ?_⟩
    obtain ⟨w5, h5, m5, o5, k5, l5, s5, rv⟩ := r4.keep k4 l4 n4 e7'
    rw [← h5]
    have l15 := l3.trans l5
    have hp5 : w5.H p = some (.dK []) := l15.tmp k1 hp1 nal
    have nF5 := l15.nF hp1 nal nF
    have nal5 := l15.nal hp1 nal
    have nO5 : ¬ w5.O p := by rw [l15.O]; exact nO
    obtain ⟨k6, l6, s6⟩ := poke k5 (l1.trans l15) (.dK [(match kk with | .one j => j | .tup _ => .inl 0, u4)]) hp nF5 nO5 nal5
    have rk5 := rk.stay (l5.stay k3)
    have hread : ReadV Γ w5 (x'.dr w5.M) u := rk5.repV.read k5
    rw [← keyT_dr _ w5.M] at ek
    rcases key_read hread ek with ⟨_, j, rfl, rfl⟩ | ⟨ht, _⟩
    · refine ⟨hp5, [(j, u4)], rfl, by simp, ?_⟩
      refine q _ (.ref p) l6 k6 (m5.trans em4) ⟨p, rfl, ?_, nF5, nO5, nal5⟩ (fun a e => by cases e; exact hp)
      unfold RepD
      rw [if_neg Bool.false_ne_true]
      exact ⟨[(j, u4)], upd_same, .cons (rv.stay s6) .nil⟩
    · cases ht
  · cases e8

/-- {t: v}, t a tuple of ints -/
def tDispT (tk tv : TE) : TE := fun σ H Q => ∀ p, H p = none → tk σ (upd H p (.dT [])) fun x H1 => tv σ H1 fun y H2 => H2 p = some (.dT []) ∧ ∃ (kk : List Key) (b : Addr), x = .ref b ∧ H2 b = some (.tup (kk.map kV)) ∧ Q (.ref p) (upd H2 p (.dT [(kk, y)]))
open PySem.Spec PyProof.Rows in
theorem pe_dispT {k v : Expr} {tk tv : TE} {pos : Pos} (hu : X.A.units + 1 < cLine) (hk : PE X k tk) (hv : PE X v tv) : PE X (.Dict [some k] [v] pos) (tDispT tk tv) := by
  refine ⟨fun pins s σ H Q I h => ?_⟩
  have hn := I.hok.fresh (Nat.le_refl s.heap.objs.size)
  have I1 := I.laid (a := s.heap.objs.size) (o := .dT []) (h' := s.heap.push { cls := .type "dict", data := .dict #[] }) (t' := s.toks) (fun _ _ q => Heap.get?_push_of_some _ q) (Nat.le_refl _) (dt_empty s.heap I.big)
  refine wpAny_Dict_any rfl rfl (by simp) (by simp) ?_
  refine pairTrees_cons_walk (thn (hk.run pins _ σ _ _ I1 (h _ hn)) fun u s1 ⟨x, H1, I2, rx, q1⟩ => thn (hv.run pins s1 σ H1 _ I2 q1) fun w2 s2 ⟨y, H2, I3, ry, e, kk, b, ex, eb, q2⟩ => ?_)
  subst ex
  obtain rfl : u = Value.ref b := rx
  refine pairTrees_nil_walk ?_
  show wpAny _ _ (forIn [(Value.ref b, w2)] PUnit.unit fun (x : Value × Value) (_ : PUnit) => (do dictSet s.heap.objs.size x.1 x.2; pure (ForInStep.yield PUnit.unit) : Sem (ForInStep PUnit))) _ _ s2
  rw [List.forIn_cons]
  obtain ⟨z, hd, xs, rel, dd⟩ := dt_of I3.hok e
  cases rel
  refine wpAny_bind (wpAny_bind (wpAny_dictSet_heap (knd := tupleKind (mixKind X.prog X.w)) (xs := []) (k := kk) (show X.A.units < cLine by omega) (key_of I3.hok eb) dd (hsz := Nat.zero_le _) fun h' dd' hs => wpAny_pure ?_))
  show wpAny _ _ (forIn [] PUnit.unit _) _ _ _
  rw [List.forIn_nil]
  refine wpAny_pure ?_
  obtain ⟨q, es, ep, hq, h2, h3, h4, _, h5⟩ := dd'
  refine ⟨.ref s.heap.objs.size, _, d_write I3 (by rw [e]; exact True.intro) hs ⟨q, hq⟩ (?_ : ObjOk X.prog X.w _ h' _ (.dT [(kk, y)])), rfl, q2⟩
  refine ⟨by show 1 ≤ sizeLine; rw [sizeLine_eq]; decide, hd, _, (KT.put (H := H2) (kvs := []) .nil kk eb ry).keeps fun c ys ec => ?_, q, es, ep, hq, h2, h3, h4, h5⟩
  rw [upd_ne (ne_of ec e (fun z => nomatch z))]
  exact ec
theorem s_dctT (g : Gd Γ X) {fk fv : EV} {k v : Expr} {pos : Pos} (hk : Snd Γ X fk k) (hv : Snd Γ X fv v) : Snd Γ X (fDct1 true fk fv) (.Dict [some k] [v] pos) := by
  refine .of_pe g ((pe_dispT g.u1 hk.pe hv.pe).imp fun σ H Q h p hp => ?_) (fun _ => rfl) (fun _ _ _ z => nomatch z)
  obtain ⟨w, ρ, z, M', hH, k0, L, e, q⟩ := h
  subst hH
  obtain ⟨x, M1, e1, e2⟩ := bind_ok e
  obtain ⟨x', M1', e3, e4⟩ := bind_ok e2
  obtain ⟨e3', rfl⟩ := ofO_ok e3
  obtain ⟨y, M2, e5, e6⟩ := bind_ok e4
  obtain ⟨y', M3, e7, e8⟩ := bind_ok e6
  obtain ⟨e7', rfl⟩ := ofO_ok e7
  split at e8
  · rename_i kk ek
    cases e8
    obtain ⟨w1, h1, m1, k1, l1, r1⟩ := al_dctT k0 hp RepT.nil
    obtain ⟨p', ep, d1, nF, nO, nal⟩ := r1
    cases ep
    rw [← h1]
    have hp1 : w1.H p = some (.dT []) := by rw [h1]; exact upd_same
    refine ⟨w1, ρ, x, _, rfl, k1, L.le l1 k0, by rw [m1]; exact e1, fun w2 u l2 k2 em r2 n2 => ?_⟩
    obtain ⟨w3, h3, m3, o3, k3, l3, s3, rk⟩ := r2.keep k2 l2 n2 e3'
    rw [← h3]
    refine ⟨w3, ρ, y, _, rfl, k3, (L.le l1 k0).le l3 k1, by rw [m3, em]; exact e5, fun w4 u4 l4 k4 em4 r4 n4 => ?_⟩
    obtain ⟨w5, h5, m5, o5, k5, l5, s5, rv⟩ := r4.keep k4 l4 n4 e7'
    rw [← h5]
    have l15 := l3.trans l5
    have hp5 : w5.H p = some (.dT []) := l15.tmp k1 hp1 nal
    have nF5 := l15.nF hp1 nal nF
    have nal5 := l15.nal hp1 nal
    have nO5 : ¬ w5.O p := by rw [l15.O]; exact nO
    have rk5 := rk.stay (l5.stay k3)
    have hread : ReadV Γ w5 (x'.dr w5.M) u := rk5.repV.read k5
    rw [← keyT_dr _ w5.M] at ek
    rcases key_read hread ek with ⟨ht, _⟩ | ⟨_, ks, b, rfl, rfl, hb, _⟩
    · cases ht
    · obtain ⟨k6, l6, s6⟩ := poke k5 (l1.trans l15) (.dT [(ks.map Sum.inl, u4)]) hp nF5 nO5 nal5
      refine ⟨hp5, ks.map Sum.inl, b, rfl, hb, ?_⟩
      refine q _ (.ref p) l6 k6 (m5.trans em4) ⟨p, rfl, ?_, nF5, nO5, nal5⟩ (fun a e => by cases e; exact hp)
      unfold RepD
      rw [if_pos rfl]
      exact ⟨[(ks.map Sum.inl, u4)], upd_same, .cons (rv.stay s6) .nil⟩
  · cases e8

/-! ### methods of shared lists -/
theorem writeO (k : WOK Γ w) {n : Nat} {o o' : MObj} (e : w.M.ob n = some o) {ho : HO} (r : ∀ w', Stay w w' → w'.H (w.μ n) = some ho → RepO Γ w' o' (w.μ n)) :
    ∃ w' : Wd, w'.H = upd w.H (w.μ n) ho ∧ w'.M = w.M.put n o' ∧ WOK Γ w' ∧ LeE w w' := by
  have al : w.al (w.μ n) := ⟨n, o, e, rfl⟩
  have hne : ∀ b, b ≠ w.μ n → upd w.H (w.μ n) ho b = w.H b := fun b h => upd_ne h
  have hob : ∀ m p, (w.M.put n o').ob m = some p → (m = n ∧ p = o') ∨ (m ≠ n ∧ w.M.ob m = some p) := fun m p h => by
    by_cases c : m = n
    · rw [show (w.M.put n o').ob m = if m = n then some o' else w.M.ob m from rfl, if_pos c] at h; cases h; exact .inl ⟨c, rfl⟩
    · rw [show (w.M.put n o').ob m = if m = n then some o' else w.M.ob m from rfl, if_neg c] at h; exact .inr ⟨c, h⟩
  have hthere : ∀ m p, (w.M.put n o').ob m = some p → ∃ q, w.M.ob m = some q := fun m p h => by
    rcases hob m p h with ⟨c, _⟩ | ⟨_, h⟩
    · exact ⟨o, c ▸ e⟩
    · exact ⟨p, h⟩
  have hal : ∀ b, (⟨w.F, w.μ, upd w.H (w.μ n) ho, w.M.put n o', w.O⟩ : Wd).al b → w.al b := fun b ⟨m, p, h1, h2⟩ => let ⟨q, hq⟩ := hthere m p h1; ⟨m, q, hq, h2⟩
  have st : Stay w ⟨w.F, w.μ, upd w.H (w.μ n) ho, w.M.put n o', w.O⟩ := ⟨fun b h => ⟨h, hne b fun z => k.Fal b h (z ▸ al)⟩, fun _ _ => rfl, Nat.le_refl _⟩
  refine ⟨⟨w.F, w.μ, upd w.H (w.μ n) ho, w.M.put n o', w.O⟩, rfl, rfl, ⟨fun b h => ?_, fun b h => ?_, fun m p h => ?_, fun m m' p p' h1 h2 h3 => ?_, fun m p h => ?_, k.FO, fun b h h2 => k.Fal b h (hal b h2), fun b h h2 => k.Oal b h (hal b h2)⟩,
    ⟨⟨fun b q hq hm => (hne b fun z => hm (z ▸ al)).trans hq, fun _ h => h, fun _ h => .inl h, fun b h => .inr (hal b h), fun _ _ => rfl, Nat.le_refl _, fun b h => ?_⟩, rfl⟩⟩
  · show upd w.H (w.μ n) ho b ≠ none
    rw [hne b fun z => k.Fal b h (z ▸ al)]; exact k.hF b h
  · show upd w.H (w.μ n) ho b ≠ none
    rw [hne b fun z => k.Oal b h (z ▸ al)]; exact k.hO b h
  · rcases hob m p h with ⟨c, rfl⟩ | ⟨c, h⟩
    · subst c; exact r _ st upd_same
    · exact RepO.stay (k.obj m p h) st fun q hq => (hne _ fun z => c (k.inj m n p o h e z)).trans hq
  · obtain ⟨q, hq⟩ := hthere m p h1
    obtain ⟨q', hq'⟩ := hthere m' p' h2
    exact k.inj m m' q q' hq hq' h3
  · obtain ⟨q, hq⟩ := hthere m p h
    exact k.lt m q hq
  · have h' : upd w.H (w.μ n) ho b = none := h
    by_cases z : b = w.μ n
    · rw [z, upd_same] at h'; cases h'
    · rw [hne b z] at h'; exact h'

def rBm (Γ : Gam) (m : Bm) : V → List V → Hp → VK → Prop := fun u us H Q => ∃ w x ys z M', w.H = H ∧ WOK Γ w ∧ RepV Γ w x u ∧ Reps Γ w ys us ∧ evBm m x ys w.M = .ok z M' ∧
  ∀ w' t, LeE w w' → WOK Γ w' → w'.M = M' → RepV Γ w' z t → New w.H z t → Q t w'.H
theorem ref_rep {n : Nat} {u : V} (r : RepV Γ w (.ref n) u) : u = .ref (w.μ n) := by
  cases (show Rep Γ w _ _ from r); rfl
theorem atK_seq {xs : List MV} {vs : List V} (hl : xs.length = vs.length) {i : Int} {p : Nat} (h : atK xs i = some p) : seqIndex? i vs.length = some p ∧ p < vs.length ∧ -(vs.length : Int) ≤ i := by
  rw [atK_ix hl] at h
  obtain ⟨h1, h2, h3, _⟩ := ixN_seq h
  exact ⟨h1, h2, h3⟩
theorem len_line {pins : List (Addr × Obj)} {σ : St} {H : Hp} {s : Shared} {p : Addr} {xs : List V} (I : Inv X pins σ H s) (h : H p = some (.lst xs)) : xs.length ≤ sizeLine := by
  obtain ⟨its, r, pl, hz⟩ := I.list (SqL.of h)
  exact hz
theorem m_append : MtR X "list.append" (rBm Γ .append) := by
  intro pins s σ H u us v vs Q I rx rv ⟨w, x, ys, z, M', hH, k, ru, rs, e, q⟩
  subst hH
  match ys, rs, e with
  | [y], rs, e =>
    obtain ⟨yv, rfl, ry⟩ := rs.one
    cases x with
    | ref n =>
      have eu := ref_rep ru
      subst eu
      simp only [evBm] at e
      split at e
      · rename_i xs eo
        obtain ⟨hz, e2⟩ := ite_ok e
        cases e2
        obtain ⟨ws, h1, r1⟩ := k.obj n _ eo
        refine mt_append pins s σ _ _ _ v vs Q I rx rv ⟨w.μ n, ws, yv, rfl, rfl, h1, by rw [← r1.length, ← SZ_eq]; exact hz, ?_⟩
        obtain ⟨w', h', m', k', l'⟩ := writeO k eo (o' := .lst (xs ++ [y])) (ho := .lst (ws ++ [yv])) fun w' st hw => ⟨ws ++ [yv], hw, (r1.stay st).append (.cons (ry.stay st) .nil)⟩
        rw [← h']
        exact q w' _ l' k' m' Rep.non.repV trivial
      · cases e
    | _ => cases e
  | [], _, e => cases e
  | _ :: _ :: _, _, e => cases e
theorem m_pop : MtR X "list.pop" (rBm Γ .pop) := by
  intro pins s σ H u us v vs Q I rx rv ⟨w, x, ys, z, M', hH, k, ru, rs, e, q⟩
  subst hH
  match ys, rs, e with
  | [], rs, e =>
    cases rs
    cases x with
    | ref n =>
      have eu := ref_rep ru
      subst eu
      simp only [evBm] at e
      split at e
      · rename_i xs eo
        obtain ⟨ws, h1, r1⟩ := k.obj n _ eo
        split at e
        · rename_i y ey
          cases e
          obtain ⟨yv, hy, ry⟩ := r1.get ey
          refine mt_pop pins s σ _ _ _ v vs Q I rx rv ⟨w.μ n, ws, yv, rfl, rfl, h1, by rw [← r1.length]; exact hy, ?_⟩
          obtain ⟨w', h', m', k', l'⟩ := writeO k eo (o' := .lst xs.dropLast) (ho := .lst ws.dropLast) fun w' st hw => ⟨ws.dropLast, hw, (r1.stay st).dropLast⟩
          rw [← h']
          have ry' := ry.stay (l'.stay k)
          exact q w' _ l' k' m' ry'.repV (.of_rep ry')
        · cases e
      · cases e
    | _ => cases e
  | _ :: _, _, e => cases e
theorem m_popAt : MtR X "list.pop" (rBm Γ .popAt) := by
  intro pins s σ H u us v vs Q I rx rv ⟨w, x, ys, z, M', hH, k, ru, rs, e, q⟩
  subst hH
  match ys, rs, e with
  | [.int i], rs, e =>
    obtain ⟨yv, rfl, ry⟩ := rs.one
    cases ry
    cases x with
    | ref n =>
      have eu := ref_rep ru
      subst eu
      simp only [evBm] at e
      split at e
      · rename_i xs eo
        obtain ⟨ws, h1, r1⟩ := k.obj n _ eo
        obtain ⟨hi, e⟩ := ite_ok e
        split at e
        · rename_i p ep
          obtain ⟨a1, a2, a3⟩ := atK_seq r1.length ep
          have hz := len_line I h1
          split at e
          · rename_i y ey
            cases e
            obtain ⟨yv, hy, ry⟩ := r1.get ey
            refine mt_popAt pins s σ _ _ _ v vs Q I rx rv ⟨w.μ n, ws, i, p, yv, rfl, rfl, h1, ?_, by omega, a1, hy, ?_⟩
            · rw [sizeLine_eq] at hz; omega
            obtain ⟨w', h', m', k', l'⟩ := writeO k eo (o' := .lst (xs.eraseIdx p)) (ho := .lst (ws.eraseIdx p)) fun w' st hw => ⟨ws.eraseIdx p, hw, (r1.stay st).eraseIdx p⟩
            rw [← h']
            have ry' := ry.stay (l'.stay k)
            exact q w' _ l' k' m' ry'.repV (.of_rep ry')
          · cases e
        · cases e
      · cases e
    | _ => cases e
  | [], _, e => cases e
  | .non :: [], _, e => cases e
  | .bl _ :: [], _, e => cases e
  | .str _ :: [], _, e => cases e
  | .tup _ :: [], _, e => cases e
  | .lst _ _ :: [], _, e => cases e
  | .dct _ _ _ :: [], _, e => cases e
  | .st _ _ :: [], _, e => cases e
  | .ref _ :: [], _, e => cases e
  | _ :: _ :: _, _, e => simp [evBm] at e
theorem m_get2 (g : Gd Γ X) : MtR X "dict.get" (rBm Γ .get2) := by
  intro pins s σ H u us v vs Q I rx rv ⟨w, x, ys, z, M', hH, k, ru, rs, e, q⟩
  subst hH
  match ys, rs, e with
  | [y, d], rs, e =>
    cases rs with
    | cons ry rt =>
      obtain ⟨dv, rfl, rd⟩ := rt.one
      simp only [evBm] at e
      split at e
      · rename_i kd t kvs eo
        split at e
        · rename_i j ek
          cases e
          have rr := ru.read k
          rw [eo] at rr
          obtain ⟨a, rfl, hd⟩ := rr
          obtain rfl : v = Value.ref a := rx
          have hk := ry.repV.read k
          rw [← keyT_dr _ w.M] at ek
          obtain ⟨o, h1, h2⟩ := dget_read hk ek hd
          obtain ⟨u1, u2, rfl, r1, r2⟩ := vals2 rv
          refine d_get2 g.u1 I h1 r1 r2 fun w' s' I' r' => ⟨_, w.H, I', r', ?_⟩
          split at h2
          · rename_i m em
            obtain ⟨mu, rfl, rm⟩ := h2
            rw [em] at q
            exact q w mu (LeE.refl w) k rfl (show Rep Γ w m mu from rm).repV (.of_rep rm)
          · rename_i em
            subst h2
            rw [em] at q
            exact q w dv (LeE.refl w) k rfl (show Rep Γ w d dv from rd).repV (.of_rep rd)
        · cases e
      · cases e
  | [], _, e => cases e
  | _ :: [], _, e => cases e
  | _ :: _ :: _ :: _, _, e => cases e
def fBm (m : Bm) (fo : EV) (fs : EVs) : EV := fun ρ M => (fo ρ M).bind fun x M1 => if m.recv (x.dr M1) then (fs ρ M1).bind fun ys M2 => evBm m x ys M2 else .stuck
theorem recv_ty {m : Bm} {x : MV} {v : V} (k : WOK Γ w) (hm : m.ok = true) (r : RepV Γ w x v) (h : m.recv (x.dr w.M) = true) : tyV Γ.K m.ty v w.H := by
  have r' := r.read k
  revert r' h
  generalize x.dr w.M = x'
  intro h r'
  cases m <;> first
    | exact absurd hm (by decide)
    | (cases x' <;> first
        | exact absurd (show false = true from h) Bool.false_ne_true
        | (obtain ⟨a, vs, rfl, _, h1, _⟩ := r'; exact .inl ⟨rfl, vs, h1⟩)
        | (obtain ⟨a, rfl, hd⟩ := r'
           unfold RepD at hd
           split at hd
           · obtain ⟨ps, h1, _⟩ := hd; exact .inr (.inr (.inl ⟨rfl, .inr ⟨ps, h1⟩⟩))
           · obtain ⟨ps, h1, _⟩ := hd; exact .inr (.inr (.inl ⟨rfl, .inl ⟨ps, h1⟩⟩))))
theorem rd_bm (g : Gd Γ X) {m : Bm} (hm : m.ok = true) {fo : EV} {fs : EVs} {σ : St} {H : Hp} {Q : VK} (h : RD Γ (fBm m fo fs) σ H Q) : tBM X.K m.ty (rBm Γ m) (RD Γ fo) (RDk Γ fs) σ H Q := by
  obtain ⟨w, ρ, z, M', hH, k, L, e, q⟩ := h
  obtain ⟨x, M1, e1, e2⟩ := bind_ok e
  obtain ⟨hc, e3⟩ := ite_ok e2
  obtain ⟨ys, M2, e4, e5⟩ := bind_ok e3
  refine ⟨w, ρ, x, M1, hH, k, L, e1, fun w1 u l1 k1 em r1 n1 => ⟨by rw [g.K]; exact recv_ty k1 hm r1 (by rw [em]; exact hc), ?_⟩⟩
  subst em
  refine ⟨w1, ρ, ys, M2, rfl, k1, L.le l1 k, e4, fun w2 us l2 k2 em2 r2 => ?_⟩
  subst em2
  exact ⟨w2, x, ys, z, M', rfl, k2, r1.le l2 k1, r2, e5, fun w3 t l3 k3 em3 r3 n3 => q w3 t ((l1.trans l2).trans l3) k3 em3 r3 (n3.le (l1.trans l2))⟩
theorem s_bm1 (g : Gd Γ X) {m : Bm} {fo : EV} {fs : EVs} {o e : Expr} {es : List Expr} {apos cpos : Pos} (hm : m.ok = true) (ho : Snd Γ X fo o) (hp : plainO o = true) (ha : ArgK Γ X fs (e :: es)) (hn : (e :: es).length < 30) (hl : (apos.endLine == cpos.line) = true) :
    Snd Γ X (fBm m fo fs) (.Call (.Attribute o m.nm apos) (e :: es) [] cpos) := by
  have he : starEach (e :: es) X.env = (false, eval e X.env) :: starEach es X.env := ha.ns e (List.mem_cons_self ..) _ _
  have hpl := star_any (fun y hy => ha.ns y (List.mem_cons_of_mem _ hy)) cpos X.env
  have hfew : ((backTo cpos (starEach (e :: es) X.env)).all (fun x => !x.1) && (backToKw cpos (keywordEach [] X.env)).all (fun x => x.1.isSome)
      && decide ((e :: es).length + ([] : List Keyword).length + (if ([] : List Keyword).isEmpty then 0 else 1) < 30)) = true := by
    rw [star_all ha.ns]
    show (true && true && decide ((e :: es).length + 0 + 0 < 30)) = true
    rw [decide_eq_true (show (e :: es).length + 0 + 0 < 30 from hn)]
    rfl
  refine .of_pe g ?_ (fun _ => rfl) (fun _ _ _ z => nomatch z)
  cases m <;> first
    | exact absurd hm (by decide)
    | exact (pe_bm PySem.F.plainAttrs_list PySem.F.slot_list_append PySem.F.type_list_append m_append ho.pe ha.pa (plainO_ok hp _ _ _) hfew hl he hpl).imp fun σ H Q h => rd_bm g rfl h
    | exact (pe_bm PySem.F.plainAttrs_list PySem.F.slot_list_pop PySem.F.type_list_pop m_pop ho.pe ha.pa (plainO_ok hp _ _ _) hfew hl he hpl).imp fun σ H Q h => rd_bm g rfl h
    | exact (pe_bm PySem.F.plainAttrs_list PySem.F.slot_list_pop PySem.F.type_list_pop m_popAt ho.pe ha.pa (plainO_ok hp _ _ _) hfew hl he hpl).imp fun σ H Q h => rd_bm g rfl h
    | exact (pe_bm PySem.F.plainAttrs_dict PySem.F.slot_dict_get PySem.F.type_dict_get (m_get2 g) ho.pe ha.pa (plainO_ok hp _ _ _) hfew hl he hpl).imp fun σ H Q h => rd_bm g rfl h
end
end Q

/-! EvJ0: enumerate of a tuple. -/
namespace Q
open PySem L2
set_option maxHeartbeats 1000000 in
theorem mk_enumT (t : Addr) (items : Array Value) :
    Meets (Builtin.«enumerate.__new__» ⟨[.type "enumerate", .ref t], []⟩) (fun _ R s => s.heap.IsTuple t items ∧
      R (.ok (.ret (.ref (s.heap.push { cls := .type "tuple_iterator", data := .fields #[.ref t, .int 0 0] }).objs.size)))
        { s with heap := (s.heap.push { cls := .type "tuple_iterator", data := .fields #[.ref t, .int 0 0] }).push { cls := .type "enumerate", data := .fields #[.none, .bool false, .ref s.heap.objs.size, rawInt 0, .none, .none] } }) :=
  .of_wp fun prog w A R s h => by
    obtain ⟨hp, g, d, tk, os⟩ := s; obtain ⟨h1, h⟩ := h
    have hsub := sub_enumerate
    have q1 : ∀ {A' : Around} {E : Value → Shared → Prop} {Q : Value → Shared → Prop}, Q (.ref hp.objs.size) ⟨hp.push { cls := .type "tuple_iterator", data := .fields #[.ref t, .int 0 0] }, g, d, tk, os⟩ → wpAny (model prog w) A' (pyIter (.ref t)) Q E ⟨hp, g, d, tk, os⟩ :=
      fun q => wpAny_pyIter_tuple (s := ⟨hp, g, d, tk, os⟩) h1 q
    wp_walk using q1
    refine wpAny_stack_any fun st => wpAny_pure ?_
    split
    · rename_i c _ _ _ _ _
      cases (c == Value.type "enumerate")
      · wp_walk using q1
        exact ⟨_, rfl, h⟩
      · wp_walk using q1
        exact ⟨_, rfl, h⟩
    · wp_walk using q1
      exact ⟨_, rfl, h⟩
theorem begin_enumT {prog : Program} {w : World} {A : Around} {E : Value → Shared → Prop} {s : Shared} {t : Addr} {items : Array Value} {Q : Value → Shared → Prop} (h1 : s.heap.IsTuple t items)
    (h : ∀ h', IsEnum h' (s.heap.objs.size + 1) s.heap.objs.size 0 .none → h'.IsTupleIter s.heap.objs.size t 0 → (∀ b o, s.heap.get? b = some o → h'.get? b = some o) → Q (.ref (s.heap.objs.size + 1)) { s with heap := h' }) :
    wpAny (model prog w) A (PySem.call (.type "enumerate") [.ref t]) Q E s := by
  refine callType_new F.called_enumerate (by decide) (F.typeCall_enumerate_1 _) (F.newCall_enumerate_1 _) (fun obj => F.args_object_init_2 obj _) F.entry_enumerate_new (mk_enumT t items) ⟨h1, ?_⟩
  have hz : (s.heap.push { cls := .type "tuple_iterator", data := .fields #[.ref t, .int 0 0] }).objs.size = s.heap.objs.size + 1 := Heap.size_push ..
  show _ ∧ _
  rw [hz]
  have he : IsEnum ((s.heap.push { cls := .type "tuple_iterator", data := .fields #[.ref t, .int 0 0] }).push { cls := .type "enumerate", data := .fields #[.none, .bool false, .ref s.heap.objs.size, rawInt 0, .none, .none] }) (s.heap.objs.size + 1) s.heap.objs.size 0 .none := by
    have := Heap.get?_push_size (s.heap.push { cls := .type "tuple_iterator", data := .fields #[.ref t, .int 0 0] }) (o := { cls := .type "enumerate", data := .fields #[.none, .bool false, .ref s.heap.objs.size, rawInt 0, .none, .none] }) rfl
    rw [hz] at this; exact this
  exact ⟨⟨_, he, rfl⟩, h _ he ⟨_, Heap.get?_push_of_some _ (Heap.get?_push_size _ rfl), rfl, rfl⟩ fun b o x => Heap.get?_push_of_some _ (Heap.get?_push_of_some _ x)⟩

/-- the tuple at a, its items in new pairs -/
def ItE (K : PySem.W.Frag) (a : Addr) : It :=
  ⟨fun i H => ∃ (xs : List V) (x : V), SqT K H a xs ∧ xs[i]? = some x, fun i H v H' => ∃ T x, v = .ref T ∧ H T = none ∧ H' = upd H T (.tup [.int (i : Nat), x]) ∧ ∀ xs, SqT K H a xs → xs[i]? = some x, fun i H => ∃ xs : List V, SqT K H a xs ∧ xs.length ≤ i⟩
theorem turn_enumT {P : Program} {w : World} {K : PySem.W.Frag} {elts : List Expr} {kk : Nat} {tpos : Pos} (a e it : Addr) (hai : a ≠ it) :
    Turn P w K (.Tuple elts kk tpos) (ItE K a) [e, it] e (fun i h => (∃ old, IsEnum h e it ((i : Nat) : Int) old) ∧ h.IsTupleIter it a i ∧ e ≠ it) where
  mem := by simp
  obj := fun i h st b hb => by
    obtain ⟨⟨old, he⟩, ⟨o, ho, hc, hd⟩, _⟩ := st
    have e' : b = e ∨ b = it := by simpa using hb
    rcases e' with z | z
    · rw [z]; exact ⟨_, he, fun v q => nomatch q⟩
    · rw [z]; exact ⟨o, ho, fun v q => by rw [hd] at q; cases q⟩
  keep := fun i h h' st k => let ⟨⟨old, he⟩, hi, hne⟩ := st; ⟨⟨old, k e (by simp) _ he⟩, hi.at fun o q => k it (by simp) o q, hne⟩
  item := by
    intro X hP hw hK hc i pins s σ H E I hf st hg
    subst hP hw hK
    obtain ⟨⟨old, he⟩, hit, hne⟩ := st
    obtain ⟨xs, x, hq, hx⟩ := hg
    obtain ⟨its, rv, p, hz⟩ := I.tuple hq
    obtain ⟨u, hu, ru⟩ := rv.get hx
    have hel : e < s.heap.objs.size := Heap.lt_size he
    have hil : it < s.heap.objs.size := by obtain ⟨_, q, _⟩ := hit; exact Heap.lt_size q
    have D := Draws.tuple (prog := X.prog) (w := X.w) (A := X.A.in1) (I.ok.hd hc) it a hai its.toArray
    by_cases hea : e = a
    · obtain ⟨o, ho, hcl, _⟩ := (show s.heap.IsTuple a its.toArray from p)
      rw [← hea, he] at ho
      cases ho
      exact absurd (Value.type.inj hcl) (by decide)
    refine wpAny_pyNext_enum_itemD D he ⟨hit, p⟩ (i := i) (by have := rv.length; have := (List.getElem?_eq_some_iff.mp hx).1; rw [List.size_toArray]; omega) hne (by simp; exact ⟨hne, hea⟩) fun y h' tk hy ho hit' hT hsz hk => ?_
    have hyu : y = u := by
      have hy' : its[i]? = some y := by simpa using hy
      rw [hu] at hy'; cases hy'; rfl
    subst hyu
    refine ⟨_, rfl, wpAny_letOwnedTupleGo_enum (s := { s with heap := h', toks := tk + 1 }) ho fun h'' he' sb => ?_⟩
    have hT2 : h''.get? s.heap.objs.size = some { cls := .type "tuple", data := .seq #[.int i tk, y] } := (sb.2 _ (Nat.ne_of_gt hel)).trans hT
    have new : ObjOk X.prog X.w (upd H s.heap.objs.size (.tup [.int (i : Nat), x])) h'' s.heap.objs.size (.tup [.int (i : Nat), x]) :=
      ⟨by show 2 ≤ sizeLine; decide, [.int i tk, y], .cons ⟨_, rfl⟩ (.cons ru .nil), ⟨_, hT2, rfl, _, rfl⟩⟩
    have I1 : Inv X pins σ (upd H s.heap.objs.size (.tup [.int (i : Nat), x])) { s with heap := h'', toks := tk + 1 } :=
      I.turnedNew (ch := [e, it]) (fun b ob hb q => (sb.2 b (fun z => hb (by simp [z]))).trans (hk b ob (fun z => hb (by simp [z])) (fun z => hb (by simp [z])) q)) hf (Nat.le_refl _) new
    refine ⟨.ref s.heap.objs.size, _, I1, rfl, ⟨_, x, rfl, I.hok.fresh (Nat.le_refl _), rfl, fun ys hy => by rw [I.tuple_inj hy hq]; exact hx⟩, ⟨⟨y, ?_⟩, hit'.1.at fun o q => (sb.2 it (Ne.symm hne)).trans q, hne⟩, fun b hb => ?_⟩
    · have e1 : ((i + 1 : Nat) : Int) = (i : Int) + 1 := by omega
      rw [e1]; exact he'
    · have hb' : b < s.heap.objs.size := by
        have e' : b = e ∨ b = it := by simpa using hb
        rcases e' with z | z
        · rw [z]; exact hel
        · rw [z]; exact hil
      rw [upd_ne (Nat.ne_of_lt hb')]
      exact (hf b hb).1
  done := by
    intro X hP hw hK hc i pins s σ H E I hf st hg
    subst hP hw hK
    obtain ⟨⟨old, he⟩, hit, hne⟩ := st
    obtain ⟨xs, hq, hx⟩ := hg
    obtain ⟨its, rv, p, hz⟩ := I.tuple hq
    obtain ⟨f0, f1, f2, f3, f4, f5⟩ := hf it (by simp)
    have hl := rv.length
    have hT : s.TypeIs (.ref e) "enumerate" := ⟨_, he, rfl⟩
    unfold pyNext
    refine wpAny_bind (wpAny_attempt (wpAny_callSpecial?_slot (name := Str.ofString "__next__") hT F.slot_enumerate_next
      (wpAny_call_entry F.slot_enumerate_next hT F.entry_enumerate_next ?_ (F.args_enumerate_next_1 _))))
    show wpAny _ _ (field (.ref e) 2 >>= _) _ _ _
    refine wpAny_bind (wpAny_field he rfl (x := .ref it) rfl ?_)
    have hd1 : X.A.in1.handled = none := I.ok.hd hc
    refine wpAny_bind (RZ.nextOf_tuple_end hd1 hit (show s.heap.IsTuple a its.toArray from p) (by simp; omega) fun h' x he' hx' => ?_)
    obtain ⟨o, ho, hc'⟩ := hx'
    refine wpAny_bind (wpAny_isInstance (T := "StopIteration") (b := true) ⟨o, ho, hc'⟩ isSubtype_stop ?_)
    exact wpAny_pure ⟨rfl, I.turned (t' := s.toks) (fun b o hb q => he' b o hb q) f0 f1 f3 f4 f5⟩
  self := fun A i s Q E st h => let ⟨⟨_, he⟩, _⟩ := st; wpAny_pyIter_enum he h
def iEnumA (K : PySem.W.Frag) (ta : TA) : TI := fun σ H R => ta σ H fun vs H1 => ∃ a xs, vs = [.ref a] ∧ ((SqL K H1 a xs ∧ R (Ite K a) H1) ∨ (SqT K H1 a xs ∧ R (ItE K a) H1))
theorem pi_enumA {X : Cx} {e : Expr} {ta : TA} {p pos tpos : Pos} {elts : List Expr} {kk : Nat} (hg : Gl X "enumerate") (hm : X.mg "enumerate" = none) (ha : PA X [e] ta) (hs : starEach [e] X.env = [(false, eval e X.env)]) :
    PI X (.Tuple elts kk tpos) (.Call (.Name "enumerate" p) [e] [] pos) (iEnumA X.K ta) := by
  refine ⟨fun pins s σ H R I h => ?_⟩
  refine PyProof.Rows.Call_ (ld_blt I hg hm PyProof.Rows.boot_enumerate (PyProof.Rows.callWith_type1 (thn (ha.run pos pins s σ H _ I h) fun us s1 ⟨vs, H1, I1, r1, q1⟩ => ?_) hs rfl))
  obtain ⟨a, xs, ex, q1⟩ := q1
  subst ex
  cases r1 with
  | cons r rr =>
    cases rr
    cases r
    have fp : ∀ b ∈ [s1.heap.objs.size + 1, s1.heap.objs.size], FpOk X pins H1 b := fun b hb => by
      have e' : b = s1.heap.objs.size + 1 ∨ b = s1.heap.objs.size := by simpa using hb
      have hle : s1.heap.objs.size ≤ b := by
        rcases e' with z | z
        · rw [z]; exact Nat.le_add_right _ _
        · rw [z]; exact Nat.le_refl _
      exact I1.fpOk hle (I1.hok.fresh hle)
    rcases q1 with ⟨hq, q⟩ | ⟨hq, q⟩
    · obtain ⟨its, rv, p', hz⟩ := I1.list hq
      refine call_enumerate_list p'.isList fun h' he hit hsz hk => wpAny_pyIter_enum he ?_
      have I2 : Inv X pins σ H1 { s1 with heap := h' } := I1.kept (t' := s1.toks) hk
      exact ⟨s1.heap.objs.size + 1, [s1.heap.objs.size + 1, s1.heap.objs.size], _, _, H1, rfl, I2, turn_enum a (s1.heap.objs.size + 1) s1.heap.objs.size, ⟨⟨.none, he⟩, hit, Nat.succ_ne_self _⟩, fp, q⟩
    · obtain ⟨its, rv, p', hz⟩ := I1.tuple hq
      obtain ⟨o, ho, _⟩ := id p'
      refine begin_enumT (show s1.heap.IsTuple a its.toArray from p') fun h' he hit hk => wpAny_pyIter_enum he ?_
      have I2 : Inv X pins σ H1 { s1 with heap := h' } := I1.kept (t' := s1.toks) hk
      exact ⟨s1.heap.objs.size + 1, [s1.heap.objs.size + 1, s1.heap.objs.size], _, _, H1, rfl, I2, turn_enumT a (s1.heap.objs.size + 1) s1.heap.objs.size (Nat.ne_of_lt (Heap.lt_size ho)), ⟨⟨.none, he⟩, hit, Nat.succ_ne_self _⟩, fp, q⟩
end Q

/-! EvJ: targets, what is walked, comprehensions. -/
namespace Q
open PySem L2

/-! ### slots -/
section
variable {Γ : Gam} {X : Cx} {w w0 : Wd} {ρ ρ' : Q.Env} {σ σ' : St}
theorem set_get {α : Type} (l : List α) (i j : Nat) (x : α) : (l.set i x)[j]? = if i = j ∧ j < l.length then some x else l[j]? := by
  by_cases e : i = j
  · subst e
    by_cases h : i < l.length
    · rw [if_pos ⟨rfl, h⟩, List.getElem?_set_self h]
    · rw [if_neg (fun z => h z.2)]
      rw [List.getElem?_eq_none (by rw [List.length_set]; omega), List.getElem?_eq_none (by omega)]
  · rw [if_neg (fun z => e z.1), List.getElem?_set_ne e]
/-- a slot takes another value -/
theorem LOK.put (L : LOK Γ w ρ σ) {i : Nat} {sv : SV} {v : V} (hi : i < ρ.length)
    (hv : ∀ m, sv = .v m → Rep Γ w m v) (ho : ∀ xs, sv = .ol xs → ∃ a vs, v = .ref a ∧ w.H a = some (.lst vs) ∧ Reps Γ w xs vs ∧ w.O a) (hd : ∀ t kvs, sv = .od t kvs → ∃ a, v = .ref a ∧ RepD Γ w t kvs a ∧ w.O a)
    (hs : ∀ xs, sv ≠ .os xs) (hu : ∀ (j : Nat) a, j ≠ i → Own ρ j → (∃ m, sv = .v m) ∨ σ[j]? = some (some (V.ref a)) → (∃ m, sv = .v m) ∨ v ≠ .ref a) : LOK Γ w (ρ.set i (some sv)) (σ.set i (some v)) := by
  have hi' : i < σ.length := L.len ▸ hi
  have g1 : ∀ j, (ρ.set i (some sv))[j]? = if i = j then some (some sv) else ρ[j]? := fun j => by
    rw [set_get]
    by_cases e : i = j
    · subst e; rw [if_pos ⟨rfl, hi⟩, if_pos rfl]
    · rw [if_neg fun z => e z.1, if_neg e]
  have g2 : ∀ j, (σ.set i (some v))[j]? = if i = j then some (some v) else σ[j]? := fun j => by
    rw [set_get]
    by_cases e : i = j
    · subst e; rw [if_pos ⟨rfl, hi'⟩, if_pos rfl]
    · rw [if_neg fun z => e z.1, if_neg e]
  have hown : ∀ j, i ≠ j → Own (ρ.set i (some sv)) j → Own ρ j := fun j e h => by
    rcases h with ⟨xs, h⟩ | ⟨t, kvs, h⟩
    · rw [g1, if_neg e] at h; exact .inl ⟨xs, h⟩
    · rw [g1, if_neg e] at h; exact .inr ⟨t, kvs, h⟩
  have hnv : Own (ρ.set i (some sv)) i → ∀ m, sv ≠ .v m := fun h m z => by
    rcases h with ⟨xs, h⟩ | ⟨t, kvs, h⟩
    · rw [g1, if_pos rfl, z] at h; cases h
    · rw [g1, if_pos rfl, z] at h; cases h
  refine ⟨by rw [List.length_set, List.length_set, L.len], fun j m e => ?_, fun j xs e => ?_, fun j t kvs e => ?_, fun j xs e => ?_, fun j k a hjk oj ok ej ek => ?_⟩
  · rw [g1] at e; rw [g2]
    by_cases c : i = j
    · rw [if_pos c] at e ⊢; cases e; exact ⟨v, rfl, hv m rfl⟩
    · rw [if_neg c] at e ⊢; exact L.v j m e
  · rw [g1] at e; rw [g2]
    by_cases c : i = j
    · rw [if_pos c] at e ⊢; cases e; obtain ⟨a, vs, h1, h2⟩ := ho xs rfl; exact ⟨a, vs, by rw [h1], h2⟩
    · rw [if_neg c] at e ⊢; exact L.ol j xs e
  · rw [g1] at e; rw [g2]
    by_cases c : i = j
    · rw [if_pos c] at e ⊢; cases e; obtain ⟨a, h1, h2⟩ := hd t kvs rfl; exact ⟨a, by rw [h1], h2⟩
    · rw [if_neg c] at e ⊢; exact L.od j t kvs e
  · rw [g1] at e
    by_cases c : i = j
    · rw [if_pos c] at e; cases e; exact hs xs rfl
    · rw [if_neg c] at e; exact L.os j xs e
  · rw [g2] at ej ek
    by_cases c : i = j
    · subst c
      rw [if_pos rfl] at ej
      rw [if_neg hjk] at ek
      cases ej
      rcases hu k a (Ne.symm hjk) (hown k hjk ok) (.inr ek) with ⟨m, z⟩ | z
      · exact hnv oj m z
      · exact z rfl
    · rw [if_neg c] at ej
      by_cases c' : i = k
      · subst c'
        rw [if_pos rfl] at ek
        cases ek
        rcases hu j a (Ne.symm c) (hown j c oj) (.inr ej) with ⟨m, z⟩ | z
        · exact hnv ok m z
        · exact z rfl
      · rw [if_neg c'] at ek
        exact L.un j k a hjk (hown j c oj) (hown k c' ok) ej ek
theorem LOK.setv (L : LOK Γ w ρ σ) {i : Nat} {m : MV} {v : V} (hi : i < ρ.length) (r : Rep Γ w m v) : LOK Γ w (ρ.set i (some (.v m))) (σ.set i (some v)) :=
  L.put hi (fun m' e => by cases e; exact r) (fun _ e => nomatch e) (fun _ _ e => nomatch e) (fun _ e => nomatch e) (fun _ _ _ _ _ => .inl ⟨m, rfl⟩)
theorem LOK.drop (L : LOK Γ w ρ σ) (i : Nat) : LOK Γ w (ρ.set i none) (σ.set i none) := by
  have g1 : ∀ j (x : SV), (ρ.set i none)[j]? = some (some x) → i ≠ j ∧ ρ[j]? = some (some x) := fun j x e => by
    rw [set_get] at e
    by_cases c : i = j ∧ j < ρ.length
    · rw [if_pos c] at e; cases e
    · rw [if_neg c] at e
      exact ⟨fun z => c ⟨z, (List.getElem?_eq_some_iff.mp e).1⟩, e⟩
  have g2 : ∀ j, i ≠ j → (σ.set i none)[j]? = σ[j]? := fun j e => List.getElem?_set_ne e
  have hown : ∀ j, Own (ρ.set i none) j → i ≠ j ∧ Own ρ j := fun j h => by
    rcases h with ⟨xs, h⟩ | ⟨t, kvs, h⟩
    · exact ⟨(g1 j _ h).1, .inl ⟨xs, (g1 j _ h).2⟩⟩
    · exact ⟨(g1 j _ h).1, .inr ⟨t, kvs, (g1 j _ h).2⟩⟩
  refine ⟨by rw [List.length_set, List.length_set, L.len], fun j m e => ?_, fun j xs e => ?_, fun j t kvs e => ?_, fun j xs e => L.os j xs (g1 j _ e).2, fun j k a hjk oj ok ej ek => ?_⟩
  · obtain ⟨c, e⟩ := g1 j _ e; rw [g2 j c]; exact L.v j m e
  · obtain ⟨c, e⟩ := g1 j _ e; rw [g2 j c]; exact L.ol j xs e
  · obtain ⟨c, e⟩ := g1 j _ e; rw [g2 j c]; exact L.od j t kvs e
  · obtain ⟨c1, o1⟩ := hown j oj
    obtain ⟨c2, o2⟩ := hown k ok
    rw [g2 j c1] at ej
    rw [g2 k c2] at ek
    exact L.un j k a hjk o1 o2 ej ek
theorem LOK.wipe (L : LOK Γ w ρ σ) : ∀ is : List Nat, LOK Γ w (Q.wipe ρ is) (L2.wipe σ is)
  | [] => L
  | i :: is => (LOK.wipe L is).drop i
theorem LOK.stay {w' : Wd} (L : LOK Γ w ρ σ) (st : Stay w w') (hO : ∀ a, w.O a → w'.O a) (h : ∀ a o, w.O a → w.H a = some o → w'.H a = some o) : LOK Γ w' ρ σ := by
  refine ⟨L.len, fun i m e => ?_, fun i xs e => ?_, fun i t xs e => ?_, L.os, L.un⟩
  · obtain ⟨u, e1, r⟩ := L.v i m e
    exact ⟨u, e1, r.stay st⟩
  · obtain ⟨a, vs, e1, e2, r, o⟩ := L.ol i xs e
    exact ⟨a, vs, e1, h a _ o e2, r.stay st, hO a o⟩
  · obtain ⟨a, e1, e2, o⟩ := L.od i t xs e
    exact ⟨a, e1, e2.stay st fun q hq => h a q o hq, hO a o⟩

/-! ### targets -/
mutual
def G.slots : G → List Nat
  | .nm i => [i]
  | .tup gs => G.slotss gs
def G.slotss : List G → List Nat
  | [] => []
  | g :: gs => G.slots g ++ G.slotss gs
end
def RG (Γ : Gam) (g : G) : L2.TG := fun v σ H Q => ∃ w ρ x ρ', w.H = H ∧ WOK Γ w ∧ LOK Γ w ρ σ ∧ Rep Γ w x v ∧ bindG g x ρ = some ρ' ∧
  ∀ σ', LOK Γ w ρ' σ' → (∀ j, j ∉ g.slots → σ'[j]? = σ[j]?) → Q σ' H
def RGs (Γ : Gam) (gs : List G) : TGs := fun vs σ H Q => ∃ w ρ xs ρ', w.H = H ∧ WOK Γ w ∧ LOK Γ w ρ σ ∧ Reps Γ w xs vs ∧ bindGs gs xs ρ = some ρ' ∧
  ∀ σ', LOK Γ w ρ' σ' → (∀ j, j ∉ G.slotss gs → σ'[j]? = σ[j]?) → Q σ' H
theorem _root_.L2.PG.imp {e : Expr} {t t' : L2.TG} (h : PG X e t) (i : ∀ v σ H Q, t' v σ H Q → t v σ H Q) : PG X e t' := ⟨fun pins s σ H v u Q I r q => h.run pins s σ H v u Q I r (i v σ H Q q)⟩
theorem _root_.L2.PGs.imp {e : List Expr} {t t' : TGs} (h : PGs X e t) (i : ∀ v σ H Q, t' v σ H Q → t v σ H Q) : PGs X e t' := ⟨fun pins s σ H v u Q I r q => h.run pins s σ H v u Q I r (i v σ H Q q)⟩
theorem g_nm {i : Nat} {x : Str} {pos : Pos} (hN : X.N.Nodup) (hi : X.N[i]? = some x) (hx : Loc X.env.scope x) (hf : X.fn x = true ∨ X.env.scope.names.lookup x = some .local) : PG X (.Name x pos) (RG Γ (.nm i)) :=
  (pg_name hN hi hx hf).imp fun v σ H Q h => by
    obtain ⟨w, ρ, y, ρ', hH, k, L, r, e, q⟩ := h
    simp only [bindG] at e
    by_cases c : i < ρ.length
    · rw [if_pos c] at e
      cases e
      exact q _ (L.setv c r) fun j hj => by
        have : i ≠ j := fun z => hj (by simp [G.slots, z])
        rw [List.getElem?_set_ne this]
    · rw [if_neg c] at e; cases e
theorem g_nil : PGs X [] (RGs Γ []) := pgs_nil.imp fun v σ H Q h => by
  obtain ⟨w, ρ, xs, ρ', hH, k, L, r, e, q⟩ := h
  cases xs with
  | nil =>
    cases r
    cases e
    exact ⟨rfl, q σ L fun _ _ => rfl⟩
  | cons x xs => cases e
theorem g_cons {e : Expr} {es : List Expr} {g : G} {gs : List G} (h1 : PG X e (RG Γ g)) (h2 : PGs X es (RGs Γ gs)) (hs : (assignEach (e :: es) X.env).map (·.2) = assign e X.env :: (assignEach es X.env).map (·.2)) : PGs X (e :: es) (RGs Γ (g :: gs)) :=
  (pgs_cons h1 h2 hs).imp fun v σ H Q h => by
    obtain ⟨w, ρ, xs, ρ', hH, k, L, r, e, q⟩ := h
    cases r with
    | nil => cases e
    | @cons x u xs us rx rt =>
      simp only [bindGs] at e
      split at e
      · rename_i ρ1 e1
        refine ⟨u, us, rfl, w, ρ, x, ρ1, hH, k, L, rx, e1, fun σ1 L1 s1 => ?_⟩
        exact ⟨w, ρ1, xs, ρ', hH, k, L1, rt, e, fun σ2 L2 s2 => q σ2 L2 fun j hj => by
          simp only [G.slotss, List.mem_append, not_or] at hj
          rw [s2 j hj.2, s1 j hj.1]⟩
      · cases e
theorem bindGs_len : ∀ {gs : List G} {xs : List MV} {ρ ρ' : Q.Env}, bindGs gs xs ρ = some ρ' → xs.length = gs.length
  | [], [], _, _, _ => rfl
  | [], _ :: _, _, _, e => by simp [bindGs] at e
  | _ :: _, [], _, _, e => by simp [bindGs] at e
  | g :: gs, x :: xs, ρ, ρ', e => by
    simp only [bindGs] at e
    split at e
    · rw [List.length_cons, List.length_cons, bindGs_len e]
    · cases e
theorem g_tup (g : Gd Γ X) {es : List Expr} {gs : List G} {k : Nat} {pos : Pos} (h : PGs X es (RGs Γ gs)) (hn : (assignEach es X.env).length = gs.length) (hst : (assignEach es X.env).findIdx? (·.1) = none) : PG X (.Tuple es k pos) (RG Γ (.tup gs)) :=
  (pg_tup g.calm h hn hst).imp fun v σ H Q h => by
    obtain ⟨w, ρ, x, ρ', hH, k, L, r, e, q⟩ := h
    cases x with
    | tup xs =>
      simp only [bindG] at e
      obtain ⟨a, vs, rfl, h1, rs⟩ := Rep.seqT r
      rw [← g.K, hH] at h1
      exact ⟨a, vs, rfl, h1, by rw [← rs.length]; exact bindGs_len e, w, ρ, xs, ρ', hH, k, L, rs, e, fun σ' L' s' => q σ' L' s'⟩
    | _ => cases e

/-! ### what is walked -/
def After (S : Bool) (w w' : Wd) : Prop := if S = true then LeS w w' else LeE w w'
theorem After.stay {S : Bool} {w' : Wd} (h : After S w w') (k : WOK Γ w) : Stay w w' := by
  unfold After at h
  split at h
  · exact h.stay k
  · exact h.stay k
def ItR (Γ : Gam) (S : Bool) (w0 : Wd) (J : It) (xs : List MV) : Prop := ∀ w, WOK Γ w → After S w0 w →
  (∀ i x, xs[i]? = some x → J.go i w.H ∧ ∀ u H', J.yld i w.H u H' → ∃ w', w'.H = H' ∧ WOK Γ w' ∧ LeE w w' ∧ w'.M = w.M ∧ Rep Γ w' x u) ∧ (∀ i, xs.length ≤ i → J.stop i w.H)
abbrev EVi := Q.Env → Store → Res (List MV)
def RI (Γ : Gam) (S : Bool) (ev : EVi) : TI := fun σ H R => ∃ w ρ xs M', w.H = H ∧ WOK Γ w ∧ LOK Γ w ρ σ ∧ ev ρ w.M = .ok xs M' ∧
  ∀ w' J, LeE w w' → WOK Γ w' → w'.M = M' → ItR Γ S w' J xs → R J w'.H
theorem _root_.L2.PI.imp {tg e : Expr} {t t' : TI} (h : PI X tg e t) (i : ∀ σ H Q, t' σ H Q → t σ H Q) : PI X tg e t' := ⟨fun pins s σ H Q I q => h.run pins s σ H Q I (i σ H Q q)⟩
/-- a sequence that stays -/
def Fast (S : Bool) (w : Wd) (a : Addr) : Prop := w.F a ∨ (S = false ∧ ¬ w.al a)
theorem Fast.at {S : Bool} {w' : Wd} {a : Addr} {o : HO} (k : WOK Γ w) (f : Fast S w a) (h : After S w w') (e : w.H a = some o) : w'.H a = some o := by
  rcases f with f | ⟨rfl, f⟩
  · rw [((h.stay k).F a f).2]; exact e
  · exact (show LeE w w' from h).tmp k e f
theorem itr_list {S : Bool} {a : Addr} {xs : List MV} {vs : List V} (k : WOK Γ w) (st : ∀ w', WOK Γ w' → After S w w' → SqL Γ.K w'.H a vs) (r : Reps Γ w xs vs) : ItR Γ S w (Itl Γ.K a) xs := by
  intro w' k' af
  have h1 := st w' k' af
  have r' := r.stay (af.stay k)
  refine ⟨fun i x hx => ?_, fun i hi => ⟨vs, h1, by rw [← r.length]; exact hi⟩⟩
  obtain ⟨u, hu, ru⟩ := r'.get hx
  refine ⟨⟨vs, u, h1, hu⟩, fun u' H' hy => ?_⟩
  obtain ⟨rfl, hy⟩ := hy
  have e := hy vs h1
  rw [hu] at e
  cases e
  exact ⟨w', rfl, k', LeE.refl w', rfl, ru⟩
theorem itr_tup {S : Bool} {a : Addr} {xs : List MV} {vs : List V} (k : WOK Γ w) (st : ∀ w', WOK Γ w' → After S w w' → SqT Γ.K w'.H a vs) (r : Reps Γ w xs vs) : ItR Γ S w (Itt Γ.K a) xs := by
  intro w' k' af
  have h1 := st w' k' af
  have r' := r.stay (af.stay k)
  refine ⟨fun i x hx => ?_, fun i hi => ⟨vs, h1, by rw [← r.length]; exact hi⟩⟩
  obtain ⟨u, hu, ru⟩ := r'.get hx
  refine ⟨⟨vs, u, h1, hu⟩, fun u' H' hy => ?_⟩
  obtain ⟨rfl, hy⟩ := hy
  have e := hy vs h1
  rw [hu] at e
  cases e
  exact ⟨w', rfl, k', LeE.refl w', rfl, ru⟩
theorem itr_range {S : Bool} {lo : Int} {n : Nat} : ItR Γ S w (Itr lo n) ((List.range n).map fun (k : Nat) => MV.int (lo + k)) := by
  intro w' k' af
  refine ⟨fun i x hx => ?_, fun i hi => ?_⟩
  · rw [List.getElem?_map] at hx
    have hi : i < n := by
      by_cases c : i < n
      · exact c
      · rw [List.getElem?_eq_none (by rw [List.length_range]; omega)] at hx; cases hx
    rw [List.getElem?_range hi] at hx
    cases hx
    exact ⟨hi, fun u H' hy => by obtain ⟨rfl, rfl⟩ := hy; exact ⟨w', rfl, k', LeE.refl w', rfl, .int _⟩⟩
  · show n ≤ i
    rw [List.length_map, List.length_range] at hi
    exact hi
theorem enumF_get : ∀ {xs : List MV} {i k : Nat} {z : MV}, (enumF k xs)[i]? = some z → ∃ x, xs[i]? = some x ∧ z = .tup [.int ((k + i : Nat) : Int), x]
  | [], _, _, _, h => by simp [enumF] at h
  | x :: xs, 0, k, z, h => by simp [enumF] at h; exact ⟨x, rfl, h.symm⟩
  | x :: xs, i + 1, k, z, h => by
    obtain ⟨y, h1, h2⟩ := enumF_get (xs := xs) (i := i) (k := k + 1) (z := z) (by simpa [enumF] using h)
    exact ⟨y, by simpa using h1, by rw [h2, show k + 1 + i = k + (i + 1) by omega]⟩
theorem enumF_len : ∀ (xs : List MV) (k : Nat), (enumF k xs).length = xs.length
  | [], _ => rfl
  | x :: xs, k => by simp [enumF, enumF_len xs (k + 1)]
theorem zipF_get : ∀ {xs ys : List MV} {i : Nat} {z : MV}, (zipF xs ys)[i]? = some z → ∃ x y, xs[i]? = some x ∧ ys[i]? = some y ∧ z = .tup [x, y]
  | [], _, _, _, h => by simp [zipF] at h
  | _ :: _, [], _, _, h => by simp [zipF] at h
  | x :: xs, y :: ys, 0, z, h => by simp [zipF] at h; exact ⟨x, y, rfl, rfl, h.symm⟩
  | x :: xs, y :: ys, i + 1, z, h => by
    obtain ⟨a, b, h1, h2, h3⟩ := zipF_get (xs := xs) (ys := ys) (i := i) (z := z) (by simpa [zipF] using h)
    exact ⟨a, b, by simpa using h1, by simpa using h2, h3⟩
theorem zipF_len : ∀ (xs ys : List MV), (zipF xs ys).length = min xs.length ys.length
  | [], ys => by simp [zipF]
  | _ :: _, [] => by simp [zipF]
  | x :: xs, y :: ys => by simp [zipF, zipF_len xs ys]

/-- a new pair is laid -/
theorem pair_rep {w' : Wd} (k : WOK Γ w') {T : Addr} {a b : MV} {u v : V} (hT : w'.H T = none) (ra : Rep Γ w' a u) (rb : Rep Γ w' b v) :
    ∃ w2 : Wd, w2.H = upd w'.H T (.tup [u, v]) ∧ WOK Γ w2 ∧ LeE w' w2 ∧ w2.M = w'.M ∧ Rep Γ w2 (.tup [a, b]) (.ref T) := by
  obtain ⟨w2, h1, m1, k1, l1, r1⟩ := al_tup k hT (.cons ra (.cons rb .nil))
  exact ⟨w2, h1, k1, l1, m1, r1⟩
theorem itr_enumL {S : Bool} {a : Addr} {xs : List MV} {vs : List V} (k : WOK Γ w) (st : ∀ w', WOK Γ w' → After S w w' → SqL Γ.K w'.H a vs) (r : Reps Γ w xs vs) : ItR Γ S w (Ite Γ.K a) (enumF 0 xs) := by
  intro w' k' af
  have h1 := st w' k' af
  have r' := r.stay (af.stay k)
  refine ⟨fun i x hx => ?_, fun i hi => ⟨vs, h1, by rw [← r.length]; rw [enumF_len] at hi; exact hi⟩⟩
  obtain ⟨y, hy, rfl⟩ := enumF_get hx
  obtain ⟨u, hu, ru⟩ := r'.get hy
  refine ⟨⟨vs, u, h1, hu⟩, fun u' H' hq => ?_⟩
  obtain ⟨T, z, rfl, hT, rfl, hz⟩ := hq
  have e := hz vs h1
  rw [hu] at e
  cases e
  rw [Nat.zero_add]
  exact pair_rep k' hT (.int _) ru
theorem itr_enumT {S : Bool} {a : Addr} {xs : List MV} {vs : List V} (k : WOK Γ w) (st : ∀ w', WOK Γ w' → After S w w' → SqT Γ.K w'.H a vs) (r : Reps Γ w xs vs) : ItR Γ S w (ItE Γ.K a) (enumF 0 xs) := by
  intro w' k' af
  have h1 := st w' k' af
  have r' := r.stay (af.stay k)
  refine ⟨fun i x hx => ?_, fun i hi => ⟨vs, h1, by rw [← r.length]; rw [enumF_len] at hi; exact hi⟩⟩
  obtain ⟨y, hy, rfl⟩ := enumF_get hx
  obtain ⟨u, hu, ru⟩ := r'.get hy
  refine ⟨⟨vs, u, h1, hu⟩, fun u' H' hq => ?_⟩
  obtain ⟨T, z, rfl, hT, rfl, hz⟩ := hq
  have e := hz vs h1
  rw [hu] at e
  cases e
  rw [Nat.zero_add]
  exact pair_rep k' hT (.int _) ru
theorem itr_zipL {S : Bool} {a b : Addr} {xs ys : List MV} {vs us : List V} (k : WOK Γ w) (st : ∀ w', WOK Γ w' → After S w w' → SqL Γ.K w'.H a vs) (st2 : ∀ w', WOK Γ w' → After S w w' → SqL Γ.K w'.H b us) (r : Reps Γ w xs vs) (r2 : Reps Γ w ys us) :
    ItR Γ S w (Itz Γ.K a b) (zipF xs ys) := by
  intro w' k' af
  have h1 := st w' k' af
  have h2 := st2 w' k' af
  have r' := r.stay (af.stay k)
  have r2' := r2.stay (af.stay k)
  refine ⟨fun i x hx => ?_, fun i hi => ⟨vs, us, h1, h2, by rw [← r.length, ← r2.length]; rw [zipF_len] at hi; omega⟩⟩
  obtain ⟨y, z, hy, hz, rfl⟩ := zipF_get hx
  obtain ⟨u, hu, ru⟩ := r'.get hy
  obtain ⟨u2, hu2, ru2⟩ := r2'.get hz
  refine ⟨⟨vs, us, u, u2, h1, h2, hu, hu2⟩, fun u' H' hq => ?_⟩
  obtain ⟨T, z1, z2, rfl, hT, rfl, q1, q2⟩ := hq
  have e := q1 vs h1
  rw [hu] at e
  cases e
  have e := q2 us h2
  rw [hu2] at e
  cases e
  exact pair_rep k' hT ru ru2
theorem itr_zipT {S : Bool} {a b : Addr} {xs ys : List MV} {vs us : List V} (k : WOK Γ w) (st : ∀ w', WOK Γ w' → After S w w' → SqT Γ.K w'.H a vs) (st2 : ∀ w', WOK Γ w' → After S w w' → SqT Γ.K w'.H b us) (r : Reps Γ w xs vs) (r2 : Reps Γ w ys us) :
    ItR Γ S w (RZ.ItzT Γ.K a b) (zipF xs ys) := by
  intro w' k' af
  have h1 := st w' k' af
  have h2 := st2 w' k' af
  have r' := r.stay (af.stay k)
  have r2' := r2.stay (af.stay k)
  refine ⟨fun i x hx => ?_, fun i hi => ⟨vs, us, h1, h2, by rw [← r.length, ← r2.length]; rw [zipF_len] at hi; omega⟩⟩
  obtain ⟨y, z, hy, hz, rfl⟩ := zipF_get hx
  obtain ⟨u, hu, ru⟩ := r'.get hy
  obtain ⟨u2, hu2, ru2⟩ := r2'.get hz
  refine ⟨⟨vs, us, u, u2, h1, h2, hu, hu2⟩, fun u' H' hq => ?_⟩
  obtain ⟨T, z1, z2, rfl, hT, rfl, q1, q2⟩ := hq
  have e := q1 vs h1
  rw [hu] at e
  cases e
  have e := q2 us h2
  rw [hu2] at e
  cases e
  exact pair_rep k' hT ru ru2
/-- a sequence that stays while it is walked -/
theorem seq_stays {S : Bool} {x : MV} {xs : List MV} {v : V} (k : WOK Γ w) (r : RepV Γ w x v) (hx : (S = false ∧ seqOf x = some xs) ∨ itemsOf x = some xs) :
    ∃ a vs, v = .ref a ∧ Reps Γ w xs vs ∧ (((∃ kd ys, x = .lst kd ys) ∧ ∀ w', WOK Γ w' → After S w w' → SqL Γ.K w'.H a vs) ∨ ((∃ ys, x = .tup ys) ∧ ∀ w', WOK Γ w' → After S w w' → SqT Γ.K w'.H a vs)) := by
  cases x with
  | tup ys =>
    have e : ys = xs := by rcases hx with ⟨_, h⟩ | h <;> (cases h; rfl)
    subst e
    cases (show Rep Γ w _ _ from r) with
    | @tup _ a vs h0 rs =>
      refine ⟨a, vs, rfl, rs, .inr ⟨⟨ys, rfl⟩, fun w' k' af => ?_⟩⟩
      rcases h0 with ⟨h1, h2⟩ | h0
      · exact SqT.of ((Fast.at (S := S) k (.inl h1) af h2))
      · exact .inr h0.2
  | lst kd ys =>
    have e : ys = xs := by
      rcases hx with ⟨_, h⟩ | h
      · cases h; rfl
      · cases kd <;> first | (cases h; rfl) | cases h
    subst e
    cases kd with
    | fz =>
      cases (show Rep Γ w _ _ from r) with
      | @lst _ a vs h1 h2 rs => exact ⟨a, vs, rfl, rs, .inl ⟨⟨_, _, rfl⟩, fun w' k' af => SqL.of (Fast.at (S := S) k (.inl h1) af h2)⟩⟩
    | ro =>
      cases (show Rep Γ w _ _ from r) with
      | @lro _ a vs h0 rs =>
        refine ⟨a, vs, rfl, rs, .inl ⟨⟨_, _, rfl⟩, fun w' k' af => ?_⟩⟩
        rcases h0 with ⟨h1, o, h2⟩ | h0
        · exact .inl (.inr ⟨o, Fast.at (S := S) k (.inl h1) af h2⟩)
        · exact .inr h0
    | nw =>
      rcases hx with ⟨rfl, _⟩ | h
      · obtain ⟨a, vs, rfl, h1, rs, n1, n2, n3⟩ := r
        exact ⟨a, vs, rfl, rs, .inl ⟨⟨_, _, rfl⟩, fun w' k' af => SqL.of (Fast.at (S := false) k (.inr ⟨rfl, n3⟩) af h1)⟩⟩
      · cases h
    | bw =>
      rcases hx with ⟨rfl, _⟩ | h
      · obtain ⟨a, vs, rfl, h1, rs, o⟩ := r
        exact ⟨a, vs, rfl, rs, .inl ⟨⟨_, _, rfl⟩, fun w' k' af => SqL.of (Fast.at (S := false) k (.inr ⟨rfl, k.Oal a o⟩) af h1)⟩⟩
      · cases h
  | _ => rcases hx with ⟨_, h⟩ | h <;> cases h
end
end Q

/-! EvK: iterables and comprehensions. -/
namespace Q
open PySem L2
section
variable {Γ : Gam} {X : Cx} {w w0 : Wd} {ρ ρ' : Q.Env} {σ σ' : St}

/-- how the iterable's list is got: S = true for a loop, false for a comprehension -/
def fIt (S : Bool) (f : EV) : EVi := fun ρ M => if S = true then ((f ρ M).bind fun x M1 => ofO x.frz M1).bind fun v M2 => ofO (itemsOf v) M2 else (f ρ M).bind fun v M1 => ofO (seqOf v) M1
theorem fIt_ok {S : Bool} {f : EV} {M M' : Store} {xs : List MV} (h : fIt S f ρ M = .ok xs M') : ∃ x, f ρ M = .ok x M' ∧ ((S = false ∧ seqOf x = some xs) ∨ (S = true ∧ ∃ y, x.frz = some y ∧ itemsOf y = some xs)) := by
  unfold fIt at h
  cases S with
  | true =>
    rw [if_pos rfl] at h
    obtain ⟨y, M1, e1, e2⟩ := bind_ok h
    obtain ⟨x, M2, e3, e4⟩ := bind_ok e1
    obtain ⟨e4', rfl⟩ := ofO_ok e4
    obtain ⟨e2', rfl⟩ := ofO_ok e2
    exact ⟨x, e3, .inr ⟨rfl, y, e4', e2'⟩⟩
  | false =>
    rw [if_neg Bool.false_ne_true] at h
    obtain ⟨x, M1, e1, e2⟩ := bind_ok h
    obtain ⟨e2', rfl⟩ := ofO_ok e2
    exact ⟨x, e1, .inl ⟨rfl, e2'⟩⟩
/-- the value, then what it is walked as -/
theorem walked {S : Bool} {x : MV} {xs : List MV} {v : V} (k : WOK Γ w) (l : LeE w0 w) (r : RepV Γ w x v) (n : New w0.H x v) (hx : (S = false ∧ seqOf x = some xs) ∨ (S = true ∧ ∃ y, x.frz = some y ∧ itemsOf y = some xs)) :
    ∃ w' : Wd, w'.H = w.H ∧ w'.M = w.M ∧ WOK Γ w' ∧ LeE w0 w' ∧ ∃ a vs, v = .ref a ∧ Reps Γ w' xs vs ∧
      (((∃ kd ys, x = .lst kd ys) ∧ ∀ w2, WOK Γ w2 → After S w' w2 → SqL Γ.K w2.H a vs) ∨ ((∃ ys, x = .tup ys) ∧ ∀ w2, WOK Γ w2 → After S w' w2 → SqT Γ.K w2.H a vs)) := by
  rcases hx with ⟨rfl, hx⟩ | ⟨rfl, y, hy, hx⟩
  · obtain ⟨a, vs, h1, h2, h3⟩ := seq_stays (S := false) k r (.inl ⟨rfl, hx⟩)
    exact ⟨w, rfl, rfl, k, l, a, vs, h1, h2, h3⟩
  · obtain ⟨w', h1, m1, o1, k1, l1, s1, r1⟩ := r.keep k l n hy
    obtain ⟨a, vs, e1, e2, e3⟩ := seq_stays (S := true) k1 r1.repV (.inr hx)
    refine ⟨w', h1, m1, k1, l1, a, vs, e1, e2, e3.imp (fun z => ⟨?_, z.2⟩) fun z => ⟨?_, z.2⟩⟩
    · obtain ⟨kd, ys, rfl⟩ := z.1
      cases x with
      | lst kd' ys' => exact ⟨kd', ys', rfl⟩
      | dct kd' t ys' => cases kd' <;> cases hy
      | st kd' ys' => cases kd' <;> cases hy
      | _ => cases hy
    · obtain ⟨ys, rfl⟩ := z.1
      cases x with
      | tup ys' => exact ⟨ys', rfl⟩
      | lst kd' ys' => cases kd' <;> cases hy
      | dct kd' t ys' => cases kd' <;> cases hy
      | st kd' ys' => cases kd' <;> cases hy
      | _ => cases hy
/-- a list or a tuple is walked -/
def iSeq (K : PySem.W.Frag) (tl : TE) : TI := fun σ H R => tl σ H fun x H1 => ∃ a, x = .ref a ∧ (((∃ xs, SqL K H1 a xs) ∧ R (Itl K a) H1) ∨ ((∃ xs, SqT K H1 a xs) ∧ R (Itt K a) H1))
theorem pi_seq {tg l : Expr} {tl : TE} (hl : PE X l tl) : PI X tg l (iSeq X.K tl) := by
  refine ⟨fun pins s σ H R I h => ?_⟩
  refine thn (hl.run pins s σ H _ I h) fun v s1 ⟨x, H1, I1, r1, a, e, q1⟩ => ?_
  subst e
  cases r1
  have fp : ∀ b ∈ [s1.heap.objs.size], FpOk X pins H1 b := fun b hb => by
    rw [List.mem_singleton.mp hb]
    exact I1.fpOk (Nat.le_refl _) (I1.hok.fresh (Nat.le_refl _))
  rcases q1 with ⟨⟨xs, hq⟩, q⟩ | ⟨⟨xs, hq⟩, q⟩
  · obtain ⟨its, rv, p, hz⟩ := I1.list hq
    exact wpAny_pyIter_list p.isList ⟨s1.heap.objs.size, [s1.heap.objs.size], _, _, H1, rfl, I1.kept (t' := s1.toks) fun b o e => Heap.get?_push_of_some _ e, turn_list a _, ⟨_, Heap.get?_push_size _ rfl, rfl, rfl⟩, fp, q⟩
  · obtain ⟨its, rv, p, hz⟩ := I1.tuple hq
    exact wpAny_pyIter_tuple (show s1.heap.IsTuple a its.toArray from p) ⟨s1.heap.objs.size, [s1.heap.objs.size], _, _, H1, rfl, I1.kept (t' := s1.toks) fun b o e => Heap.get?_push_of_some _ e, turn_tuple a _, ⟨_, Heap.get?_push_size _ rfl, rfl, rfl⟩, fp, q⟩
theorem After.refl (S : Bool) (w : Wd) : After S w w := by unfold After; split; exact LeS.refl w; exact LeE.refl w
/-- any expression whose value is walked -/
theorem i_exp (g : Gd Γ X) {S : Bool} {f : EV} {e tg : Expr} (h : Snd Γ X f e) : PI X tg e (RI Γ S (fIt S f)) :=
  (pi_seq h.pe).imp fun σ H R h => by
    obtain ⟨w, ρ, xs, M', hH, k, L, e, q⟩ := h
    obtain ⟨x, e1, hx⟩ := fIt_ok e
    refine ⟨w, ρ, _, _, hH, k, L, e1, fun w1 u l1 k1 em r1 n1 => ?_⟩
    obtain ⟨w2, h2, m2, k2, l2, a, vs, rfl, rs, hs | hs⟩ := walked k1 l1 r1 n1 hx
    · rw [← h2, g.K]
      exact ⟨a, rfl, .inl ⟨⟨vs, hs.2 w2 k2 (.refl S w2)⟩, q w2 _ l2 k2 (m2.trans em) (itr_list k2 hs.2 rs)⟩⟩
    · rw [← h2, g.K]
      exact ⟨a, rfl, .inr ⟨⟨vs, hs.2 w2 k2 (.refl S w2)⟩, q w2 _ l2 k2 (m2.trans em) (itr_tup k2 hs.2 rs)⟩⟩

theorem fIt_bi {S : Bool} {b : Bi} {fs : EVs} {M M' : Store} {xs : List MV} (h : fIt S (fBi b fs) ρ M = .ok xs M') : b.it = true → ∃ as v, fs ρ M = .ok as M' ∧ evBi b as = some v ∧ ((S = false ∧ seqOf v = some xs) ∨ (S = true ∧ ∃ y, v.frz = some y ∧ itemsOf y = some xs)) := by
  intro hb
  obtain ⟨v, e1, hv⟩ := fIt_ok h
  obtain ⟨as, M1, e2, e3⟩ := bind_ok e1
  obtain ⟨e3', rfl⟩ := ofO_ok e3
  rw [if_pos hb] at e3'
  exact ⟨as, v, e2, e3', hv⟩
theorem ev_range1 {bs : List MV} {v : MV} (h : evBi .range1 bs = some v) : ∃ j, bs = [.int j] ∧ (-1000000 < j ∧ j < 1000000) ∧ v = .lst .nw (rangeL 0 j) := by
  cases bs with
  | nil => simp [evBi] at h
  | cons a t =>
    cases t with
    | cons b t => cases a <;> simp [evBi] at h
    | nil =>
      cases a with
      | int j => obtain ⟨hc, e⟩ := ite_some h; cases e; exact ⟨j, rfl, hc, rfl⟩
      | _ => simp [evBi] at h
theorem ev_range2 {bs : List MV} {v : MV} (h : evBi .range2 bs = some v) : ∃ i j, bs = [.int i, .int j] ∧ ((-1000000 < i ∧ i < 1000000) ∧ -1000000 < j ∧ j < 1000000) ∧ v = .lst .nw (rangeL i j) := by
  cases bs with
  | nil => simp [evBi] at h
  | cons a t =>
    cases t with
    | nil => cases a <;> simp [evBi] at h
    | cons b t =>
      cases t with
      | cons c t => cases a <;> cases b <;> simp [evBi] at h
      | nil =>
        cases a with
        | int i =>
          cases b with
          | int j => obtain ⟨hc, e⟩ := ite_some h; cases e; exact ⟨i, j, rfl, hc, rfl⟩
          | _ => simp [evBi] at h
        | _ => simp [evBi] at h
theorem ev_enum {bs : List MV} {v : MV} (h : evBi .enum bs = some v) : ∃ x xs, bs = [x] ∧ seqOf x = some xs ∧ v = .lst x.kd (enumF 0 xs) := by
  cases bs with
  | nil => simp [evBi] at h
  | cons a t =>
    cases t with
    | cons b t => simp [evBi] at h
    | nil =>
      simp only [evBi] at h
      split at h
      · rename_i xs e; cases h; exact ⟨a, xs, rfl, e, rfl⟩
      · cases h
theorem ev_zip {bs : List MV} {v : MV} (h : evBi .zip bs = some v) : (∃ xs ys, bs = [.tup xs, .tup ys] ∧ v = .lst .nw (zipF xs ys)) ∨ (∃ k l xs ys, bs = [.lst k xs, .lst l ys] ∧ (k ≠ .nw ∧ l ≠ .nw) ∧ v = .lst ((MV.lst k xs).kd.or (MV.lst l ys).kd) (zipF xs ys)) := by
  cases bs with
  | nil => simp [evBi] at h
  | cons a t =>
    cases t with
    | nil => simp [evBi] at h
    | cons b t =>
      cases t with
      | cons c t => cases a <;> cases b <;> simp [evBi] at h
      | nil =>
        cases a with
        | tup xs =>
          cases b with
          | tup ys => cases h; exact .inl ⟨xs, ys, rfl, rfl⟩
          | _ => simp [evBi] at h
        | lst k xs =>
          cases b with
          | lst l ys => obtain ⟨hc, e⟩ := ite_some h; cases e; exact .inr ⟨k, l, xs, ys, rfl, hc, rfl⟩
          | _ => simp [evBi] at h
        | _ => cases b <;> simp [evBi] at h
theorem lst_walk {S : Bool} {k : Kd} {xs ys : List MV} (h : (S = false ∧ seqOf (.lst k xs) = some ys) ∨ (S = true ∧ ∃ y, (MV.lst k xs).frz = some y ∧ itemsOf y = some ys)) : ys = xs ∧ (k = .bw → S = false) := by
  rcases h with ⟨rfl, h⟩ | ⟨rfl, y, h1, h2⟩
  · cases h; exact ⟨rfl, fun _ => rfl⟩
  · cases k <;> cases h1 <;> first | (cases h2; exact ⟨rfl, fun z => nomatch z⟩)
theorem RepVs.one {x : MV} {us : List V} (r : RepVs Γ w [x] us) : ∃ u, us = [u] ∧ RepV Γ w x u := by
  cases r with
  | cons a b => cases b; exact ⟨_, rfl, a⟩
theorem RepVs.two {x y : MV} {us : List V} (r : RepVs Γ w [x, y] us) : ∃ u v, us = [u, v] ∧ RepV Γ w x u ∧ RepV Γ w y v := by
  cases r with
  | cons a b => cases b with
    | cons c d => cases d; exact ⟨_, _, rfl, a, c⟩
theorem int_rep {i : Int} {u : V} (r : RepV Γ w (.int i) u) : u = .int i := by
  cases (show Rep Γ w _ _ from r); rfl
theorem i_range1 (g : Gd Γ X) {S : Bool} {fs : EVs} {a tg : Expr} {p pos : Pos} (hg : Gl X "range") (hm : X.mg "range" = none) (ha : ArgS Γ X fs [a]) : PI X tg (.Call (.Name "range" p) [a] [] pos) (RI Γ S (fIt S (fBi .range1 fs))) :=
  (pi_range1 hg hm ha.pa (ha.ns a (List.mem_singleton.mpr rfl) _ _)).imp fun σ H R h => by
    obtain ⟨w, ρ, xs, M', hH, k, L, e, q⟩ := h
    obtain ⟨as, v, e1, e2, hv⟩ := fIt_bi e rfl
    refine ⟨w, ρ, as, _, hH, k, L, e1, fun w1 us l1 k1 em r1 n1 => ?_⟩
    obtain ⟨j, rfl, hc, rfl⟩ := ev_range1 e2
    obtain ⟨u, rfl, r2⟩ := r1.one
    obtain ⟨rfl, _⟩ := lst_walk hv
    rw [int_rep r2]
    refine ⟨j, rfl, by omega, by omega, ?_⟩
    have hr : ItR Γ S w1 (Itr 0 j.toNat) (rangeL 0 j) := by
      have := itr_range (Γ := Γ) (S := S) (w := w1) (lo := 0) (n := j.toNat)
      unfold rangeL
      rw [show (j - 0).toNat = j.toNat by omega]
      exact this
    exact q w1 _ l1 k1 em hr
theorem i_range2 (g : Gd Γ X) {S : Bool} {fs : EVs} {a b tg : Expr} {p pos : Pos} (hg : Gl X "range") (hm : X.mg "range" = none) (ha : ArgS Γ X fs [a, b]) : PI X tg (.Call (.Name "range" p) [a, b] [] pos) (RI Γ S (fIt S (fBi .range2 fs))) := by
  have h2 : starEach [b] X.env = [(false, eval b X.env)] := ha.ns b (by simp) _ _
  have h1 : starEach [a, b] X.env = [(false, eval a X.env), (false, eval b X.env)] := (ha.ns a (by simp) _ _).trans (by rw [h2])
  refine (pi_range2 hg hm ha.pa h1 h2).imp fun σ H R h => ?_
  obtain ⟨w, ρ, xs, M', hH, k, L, e, q⟩ := h
  obtain ⟨as, v, e1, e2, hv⟩ := fIt_bi e rfl
  refine ⟨w, ρ, as, _, hH, k, L, e1, fun w1 us l1 k1 em r1 n1 => ?_⟩
  obtain ⟨i, j, rfl, hc, rfl⟩ := ev_range2 e2
  obtain ⟨u1, u2, rfl, r2, r3⟩ := r1.two
  obtain ⟨rfl, _⟩ := lst_walk hv
  rw [int_rep r2, int_rep r3]
  exact ⟨i, j, rfl, ⟨by omega, by omega, by omega, by omega⟩, q w1 _ l1 k1 em itr_range⟩
theorem itr_rangeD {S : Bool} {w : Wd} {i j : Int} : ItR Γ S w (Itc i (-1) (i - j).toNat) (rangeD i j) := by
  intro w' k' af
  unfold rangeD
  refine ⟨fun m x hx => ?_, fun m hm => ?_⟩
  · rw [List.getElem?_map] at hx
    have hi : m < (i - j).toNat := by
      by_cases c : m < (i - j).toNat
      · exact c
      · rw [List.getElem?_eq_none (by rw [List.length_range]; omega)] at hx; cases hx
    rw [List.getElem?_range hi] at hx
    cases hx
    exact ⟨hi, fun u H' hy => by obtain ⟨rfl, rfl⟩ := hy; exact ⟨w', rfl, k', LeE.refl w', rfl, .int _⟩⟩
  · show (i - j).toNat ≤ m
    rw [List.length_map, List.length_range] at hm
    exact hm
theorem ev_range3 {bs : List MV} {v : MV} (h : evBi .range3 bs = some v) : ∃ i j, bs = [.int i, .int j, .int (-1)] ∧ ((-1000000 < i ∧ i < 1000000) ∧ -1000000 < j ∧ j < 1000000) ∧ v = .lst .nw (rangeD i j) := by
  cases bs with
  | nil => simp [evBi] at h
  | cons a t =>
    cases t with
    | nil => cases a <;> simp [evBi] at h
    | cons b t =>
      cases t with
      | nil => cases a <;> cases b <;> simp [evBi] at h
      | cons c t =>
        cases t with
        | cons d t => cases a <;> cases b <;> cases c <;> simp [evBi] at h
        | nil =>
          cases a with
          | int i =>
            cases b with
            | int j =>
              cases c with
              | int k => obtain ⟨⟨rfl, hc⟩, e⟩ := ite_some h; cases e; exact ⟨i, j, rfl, hc, rfl⟩
              | _ => simp [evBi] at h
            | _ => simp [evBi] at h
          | _ => simp [evBi] at h
theorem RepVs.three {x y z : MV} {us : List V} (r : RepVs Γ w [x, y, z] us) : ∃ u v t, us = [u, v, t] ∧ RepV Γ w x u ∧ RepV Γ w y v ∧ RepV Γ w z t := by
  cases r with
  | cons a r => cases r with
    | cons b r => cases r with
      | cons c r => cases r; exact ⟨_, _, _, rfl, a, b, c⟩
theorem i_range3 (g : Gd Γ X) {S : Bool} {fs : EVs} {a b c tg : Expr} {p pos : Pos} (hg : Gl X "range") (hm : X.mg "range" = none) (ha : ArgS Γ X fs [a, b, c]) : PI X tg (.Call (.Name "range" p) [a, b, c] [] pos) (RI Γ S (fIt S (fBi .range3 fs))) := by
  have h3 : starEach [c] X.env = [(false, eval c X.env)] := ha.ns c (by simp) _ _
  have h2 : starEach [b, c] X.env = [(false, eval b X.env), (false, eval c X.env)] := (ha.ns b (by simp) _ _).trans (by rw [h3])
  have h1 : starEach [a, b, c] X.env = (false, eval a X.env) :: starEach [b, c] X.env := ha.ns a (by simp) _ _
  have hp : (backTo pos (starEach [b, c] X.env)).any (·.1) = false := star_any (fun y hy => ha.ns y (List.mem_cons_of_mem _ hy)) pos X.env
  refine (pi_range3 hg hm ha.pa h1 hp).imp fun σ H R h => ?_
  obtain ⟨w, ρ, xs, M', hH, k, L, e, q⟩ := h
  obtain ⟨as, v, e1, e2, hv⟩ := fIt_bi e rfl
  refine ⟨w, ρ, as, _, hH, k, L, e1, fun w1 us l1 k1 em r1 n1 => ?_⟩
  obtain ⟨i, j, rfl, hc, rfl⟩ := ev_range3 e2
  obtain ⟨u1, u2, u3, rfl, r2, r3, r4⟩ := r1.three
  obtain ⟨rfl, _⟩ := lst_walk hv
  rw [int_rep r2, int_rep r3, int_rep r4]
  exact ⟨i, j, -1, _, rfl, RgC.neg (by omega) (by omega) (by omega) (by omega), q w1 _ l1 k1 em itr_rangeD⟩
/-- what a pair maker keeps on walking -/
theorem kd_walk {S : Bool} {x : MV} {xs : List MV} {v : V} (k : WOK Γ w) (l : LeE w0 w) (r : RepV Γ w x v) (n : New w0.H x v) (hs : seqOf x = some xs) (hS : x.kd = .bw → S = false) :
    ∃ w' : Wd, w'.H = w.H ∧ w'.M = w.M ∧ w'.O = w.O ∧ WOK Γ w' ∧ LeE w0 w' ∧ Stay w w' ∧ ∃ a vs, v = .ref a ∧ Reps Γ w' xs vs ∧
      ((∀ w2, WOK Γ w2 → After S w' w2 → SqL Γ.K w2.H a vs) ∨ (∀ w2, WOK Γ w2 → After S w' w2 → SqT Γ.K w2.H a vs)) := by
  by_cases hb : x.kd = .bw
  · have := hS hb
    subst this
    obtain ⟨a, vs, h1, h2, h3⟩ := seq_stays (S := false) k r (.inl ⟨rfl, hs⟩)
    exact ⟨w, rfl, rfl, rfl, k, l, Stay.refl w, a, vs, h1, h2, h3.imp (·.2) (·.2)⟩
  · have hf : ∃ y, x.frz = some y ∧ itemsOf y = some xs := by
      cases x with
      | tup ys => cases hs; exact ⟨_, rfl, rfl⟩
      | lst kd ys => cases hs; cases kd <;> first | exact ⟨_, rfl, rfl⟩ | exact absurd rfl hb
      | _ => cases hs
    obtain ⟨y, h1, h2⟩ := hf
    obtain ⟨w', g1, g2, g3, g4, g5, g6, g7⟩ := r.keep k l n h1
    obtain ⟨a, vs, q1, q2, q3⟩ := seq_stays (S := S) g4 g7.repV (.inr h2)
    exact ⟨w', g1, g2, g3, g4, g5, g6, a, vs, q1, q2, q3.imp (·.2) (·.2)⟩
theorem News.one {H : Hp} {x : MV} {v : V} (n : News H [x] [v]) : New H x v := by cases n with | cons a _ => exact a
theorem News.two {H : Hp} {x y : MV} {u v : V} (n : News H [x, y] [u, v]) : New H x u ∧ New H y v := by
  cases n with | cons a b => cases b with | cons c _ => exact ⟨a, c⟩
theorem i_enum (g : Gd Γ X) {S : Bool} {fs : EVs} {a : Expr} {elts : List Expr} {kk : Nat} {p pos tpos : Pos} (hg : Gl X "enumerate") (hm : X.mg "enumerate" = none) (ha : ArgS Γ X fs [a]) :
    PI X (.Tuple elts kk tpos) (.Call (.Name "enumerate" p) [a] [] pos) (RI Γ S (fIt S (fBi .enum fs))) :=
  (pi_enumA hg hm ha.pa (ha.ns a (List.mem_singleton.mpr rfl) _ _)).imp fun σ H R h => by
    obtain ⟨w, ρ, xs, M', hH, k, L, e, q⟩ := h
    obtain ⟨as, v, e1, e2, hv⟩ := fIt_bi e rfl
    refine ⟨w, ρ, as, _, hH, k, L, e1, fun w1 us l1 k1 em r1 n1 => ?_⟩
    obtain ⟨x, ys, rfl, hx, rfl⟩ := ev_enum e2
    obtain ⟨u, rfl, r2⟩ := r1.one
    obtain ⟨rfl, hS⟩ := lst_walk hv
    obtain ⟨w2, h2, m2, o2, k2, l2, s2, a, vs, rfl, rs, hs | hs⟩ := kd_walk k1 l1 r2 n1.one hx hS
    · rw [← h2, g.K]
      exact ⟨a, vs, rfl, .inl ⟨hs w2 k2 (.refl S w2), q w2 _ l2 k2 (m2.trans em) (itr_enumL k2 hs rs)⟩⟩
    · rw [← h2, g.K]
      exact ⟨a, vs, rfl, .inr ⟨hs w2 k2 (.refl S w2), q w2 _ l2 k2 (m2.trans em) (itr_enumT k2 hs rs)⟩⟩
theorem or_bw {a b : Kd} : (a = .bw → a.or b = .bw) ∧ (b = .bw → a.or b = .bw) := by
  cases a <;> cases b <;> simp [Kd.or]
theorem i_zip (g : Gd Γ X) {S : Bool} {fs : EVs} {a b : Expr} {elts : List Expr} {kk : Nat} {p pos tpos : Pos} (hg : Gl X "zip") (hm : X.mg "zip" = none) (ha : ArgS Γ X fs [a, b]) :
    PI X (.Tuple elts kk tpos) (.Call (.Name "zip" p) [a, b] [] pos) (RI Γ S (fIt S (fBi .zip fs))) :=
  (RZ.pi_zipA hg hm ha.pa (ha.ns a (by simp) _ _) (star_any (fun y hy => by rw [List.mem_singleton.mp hy]; exact ha.ns b (by simp)) pos X.env)).imp fun σ H R h => by
    obtain ⟨w, ρ, xs, M', hH, k, L, e, q⟩ := h
    obtain ⟨as, v, e1, e2, hv⟩ := fIt_bi e rfl
    refine ⟨w, ρ, as, _, hH, k, L, e1, fun w1 us l1 k1 em r1 n1 => ?_⟩
    rcases ev_zip e2 with ⟨xs, ys, rfl, rfl⟩ | ⟨kd, kl, xs, ys, rfl, hc, rfl⟩
    · obtain ⟨u1, u2, rfl, r2, r3⟩ := r1.two
      obtain ⟨rfl, hS⟩ := lst_walk hv
      obtain ⟨w2, h2, m2, o2, k2, l2, s2, a, vs, rfl, rs, hs⟩ := kd_walk (S := S) (x := .tup xs) k1 l1 r2 n1.two.1 rfl (fun z => nomatch z)
      have r3' : Rep Γ w2 (.tup ys) u2 := (show Rep Γ w1 (.tup ys) u2 from r3).stay s2
      obtain ⟨b, us, rfl, rs2, hs2⟩ := seq_stays (S := S) k2 r3'.repV (.inr rfl)
      obtain ⟨a', vs', e', hq, rs'⟩ := Rep.seqT (show Rep Γ w1 (.tup xs) (.ref a) from r2)
      cases e'
      obtain ⟨a2, vs2, ea, ra, ha2⟩ := seq_stays (S := S) k2 ((show Rep Γ w1 (.tup xs) (.ref a) from r2).stay s2).repV (.inr rfl)
      cases ea
      rcases ha2 with ⟨⟨_, _, z⟩, _⟩ | ⟨_, ha2⟩
      · cases z
      rcases hs2 with ⟨⟨_, _, z⟩, _⟩ | ⟨_, hb2⟩
      · cases z
      rw [← h2, g.K]
      exact ⟨a, b, vs2, us, rfl, .inr ⟨ha2 w2 k2 (.refl S w2), hb2 w2 k2 (.refl S w2), q w2 _ l2 k2 (m2.trans em) (itr_zipT k2 ha2 hb2 ra rs2)⟩⟩
    · obtain ⟨u1, u2, rfl, r2, r3⟩ := r1.two
      obtain ⟨rfl, hS⟩ := lst_walk hv
      have pick : ∀ {k : Kd} {zs : List MV}, k ≠ .nw → (k = .bw → S = false) → (S = false ∧ seqOf (.lst k zs) = some zs) ∨ itemsOf (.lst k zs) = some zs := fun {k zs} hk hb => by
        cases k with
        | nw => exact absurd rfl hk
        | bw => exact .inl ⟨hb rfl, rfl⟩
        | fz => exact .inr rfl
        | ro => exact .inr rfl
      have kb : ∀ {k : Kd} {zs : List MV}, k = .bw → (MV.lst k zs).kd = .bw := fun {k zs} h => by subst h; rfl
      obtain ⟨a, vs, rfl, ra, ha2⟩ := seq_stays (S := S) k1 r2 (pick hc.1 fun z => hS (or_bw.1 (kb z)))
      obtain ⟨b, us, rfl, rb, hb2⟩ := seq_stays (S := S) k1 r3 (pick hc.2 fun z => hS (or_bw.2 (kb z)))
      rcases ha2 with ⟨_, ha2⟩ | ⟨⟨_, z⟩, _⟩
      · rcases hb2 with ⟨_, hb2⟩ | ⟨⟨_, z⟩, _⟩
        · rw [g.K]
          exact ⟨a, b, vs, us, rfl, .inl ⟨ha2 w1 k1 (.refl S w1), hb2 w1 k1 (.refl S w1), q w1 _ l1 k1 em (itr_zipL k1 ha2 hb2 ra rb)⟩⟩
        · cases z
      · cases z
end
end Q

/-! EvL: comprehensions. -/
namespace Q
open PySem L2
section
variable {Γ : Gam} {X : Cx} {w w0 : Wd} {ρ ρ' : Q.Env} {σ σ' : St}

theorem wipe_eq {σ σ2 : St} : ∀ {vs : List Nat}, σ2.length = σ.length → (∀ j, j ∉ vs → σ2[j]? = σ[j]?) → L2.wipe σ2 vs = L2.wipe σ vs := fun {vs} hl h => by
  apply List.ext_getElem?
  intro j
  by_cases hj : j ∈ vs
  · have key : ∀ (τ : St) (vs : List Nat), j ∈ vs → (L2.wipe τ vs)[j]? = if j < τ.length then some none else none := by
      intro τ vs
      induction vs with
      | nil => intro h; cases h
      | cons v vs ih =>
        intro h
        show ((L2.wipe τ vs).set v none)[j]? = _
        rw [set_get, wipe_length]
        by_cases c : v = j ∧ j < τ.length
        · rw [if_pos c, if_pos c.2]
        · rw [if_neg c]
          rcases List.mem_cons.mp h with e | h'
          · have : ¬ j < τ.length := fun z => c ⟨e.symm, z⟩
            rw [if_neg this]
            exact List.getElem?_eq_none (by rw [wipe_length]; omega)
          · exact ih h'
    rw [key σ2 vs hj, key σ vs hj, hl]
  · rw [wipe_out hj, wipe_out hj, h j hj]
theorem _root_.L2.PTs.imp {e : List Expr} {t t' : TT} (h : PTs X e t) (i : ∀ σ H Q, t' σ H Q → t σ H Q) : PTs X e t' := ⟨fun pins s σ H Q I q => h.run pins s σ H Q I (i σ H Q q)⟩
theorem t_nil : PTs X [] (RDb Γ (vt fun _ M => .ok (.bl true) M)) := pts_nil.imp fun σ H Q h => by
  obtain ⟨w, ρ, v, M', hH, k, L, e, q⟩ := h
  cases e
  subst hH
  exact q w (LeE.refl w) k rfl
theorem t_one {f : EV} {c : Expr} (h : Snd Γ X f c) : PTs X [c] (RDb Γ (vt f)) := pts_one h.pt

/-! ### [elt for tg in it if cond] -/
def fStep (g : G) (own : List Nat) (fc fe : EV) (ρ : Q.Env) : MV → Store → Res (Option MV) := fun x M => (ofO (bindG g x (wipe ρ own)) M).bind fun ρ1 M1 => (fc ρ1 M1).bind fun c M2 => (ofO (truth (c.dr M2)) M2).bind fun t M3 =>
        if t then (fe ρ1 M3).bind fun y M4 => (ofO y.frz M4).bind fun u M5 => .ok (some u) M5 else .ok none M3
def fLc (own : List Nat) (g : G) (fi : EVi) (fc fe : EV) : EV := fun ρ M => (fi ρ M).bind fun xs M2 => (lcL (fStep g own fc fe ρ) xs [] M2).bind fun ys M3 => .ok (.lst .nw ys) M3
/-- a list that is being made stands at D -/
structure Mk1 (Γ : Gam) (w1 w : Wd) (D : Addr) (acc : List MV) (vs : List V) : Prop where
  k : WOK Γ w
  l : LeE w1 w
  h : w.H D = some (.lst vs)
  r : Reps Γ w acc vs
  nF : ¬ w.F D
  nO : ¬ w.O D
  nal : ¬ w.al D
  h0 : w1.H D = none
theorem Mk1.le {w1 w' : Wd} {D : Addr} {acc : List MV} {vs : List V} (m : Mk1 Γ w1 w D acc vs) (l : LeE w w') (k' : WOK Γ w') : Mk1 Γ w1 w' D acc vs :=
  ⟨k', m.l.trans l, l.tmp m.k m.h m.nal, m.r.stay (l.stay m.k), l.nF m.h m.nal m.nF, by rw [l.O]; exact m.nO, l.nal m.h m.nal, m.h0⟩
theorem Mk1.add {w1 : Wd} {D : Addr} {acc : List MV} {vs : List V} (m : Mk1 Γ w1 w D acc vs) {x : MV} {v : V} (r : Rep Γ w x v) :
    ∃ w' : Wd, w'.H = upd w.H D (.lst (vs ++ [v])) ∧ w'.M = w.M ∧ Mk1 Γ w1 w' D (acc ++ [x]) (vs ++ [v]) := by
  obtain ⟨k', l', s'⟩ := poke m.k m.l (.lst (vs ++ [v])) m.h0 m.nF m.nO m.nal
  exact ⟨{ w with H := upd w.H D (.lst (vs ++ [v])) }, rfl, rfl, k', l', upd_same, (m.r.stay s').append (.cons (r.stay s') .nil), m.nF, m.nO, m.nal, m.h0⟩
theorem Mk1.val {w1 : Wd} {D : Addr} {acc : List MV} {vs : List V} (m : Mk1 Γ w1 w D acc vs) : RepV Γ w (.lst .nw acc) (.ref D) := ⟨D, vs, rfl, m.h, m.r, m.nF, m.nO, m.nal⟩
theorem Mk1.start {w1 : Wd} (k : WOK Γ w1) {D : Addr} (hD : w1.H D = none) : ∃ w' : Wd, w'.H = upd w1.H D (.lst []) ∧ w'.M = w1.M ∧ Mk1 Γ w1 w' D [] [] := by
  obtain ⟨w', h1, m1, k1, l1, r1, o1⟩ := al_lst k hD Reps.nil
  obtain ⟨a, vs, e, h2, r2, n1, n2, n3⟩ := r1
  cases e
  cases r2
  exact ⟨w', h1, m1, k1, l1, h2, .nil, n1, n2, n3, hD⟩
/-- what an element's turn does -/
theorem step_read {g : G} {own : List Nat} {fc fe : EV} {x : MV} {M M' : Store} {o : Option MV} (h : fStep g own fc fe ρ x M = .ok o M') :
    ∃ ρ1 t M1, bindG g x (wipe ρ own) = some ρ1 ∧ vt fc ρ1 M = .ok t M1 ∧ (if t = true then ∃ y u, fe ρ1 M1 = .ok y M' ∧ y.frz = some u ∧ o = some u else o = none ∧ M' = M1) := by
  obtain ⟨ρ1, M1, e1, e2⟩ := bind_ok h
  obtain ⟨e1', rfl⟩ := ofO_ok e1
  obtain ⟨c, M2, e3, e4⟩ := bind_ok e2
  obtain ⟨t, M3, e5, e6⟩ := bind_ok e4
  obtain ⟨e5', rfl⟩ := ofO_ok e5
  refine ⟨ρ1, t, _, e1', vt_mk e3 e5', ?_⟩
  cases t with
  | true =>
    rw [if_pos rfl] at e6 ⊢
    obtain ⟨y, M4, e7, e8⟩ := bind_ok e6
    obtain ⟨u, M5, e9, e10⟩ := bind_ok e8
    obtain ⟨e9', rfl⟩ := ofO_ok e9
    cases e10
    exact ⟨y, u, e7, e9', rfl⟩
  | false =>
    rw [if_neg Bool.false_ne_true] at e6 ⊢
    cases e6
    exact ⟨rfl, rfl⟩
theorem drop_cons {α : Type} {xs : List α} {i : Nat} {x : α} (h : xs[i]? = some x) : xs.drop i = x :: xs.drop (i + 1) := by
  obtain ⟨hi, rfl⟩ := List.getElem?_eq_some_iff.mp h
  exact List.drop_eq_getElem_cons hi
mutual
theorem bindG_len : ∀ {g : G} {x : MV} {ρ ρ' : Q.Env}, bindG g x ρ = some ρ' → ρ'.length = ρ.length
  | .nm i, x, ρ, ρ', h => by
    simp only [bindG] at h
    split at h
    · cases h; rw [List.length_set]
    · cases h
  | .tup gs, x, ρ, ρ', h => by
    cases x with
    | tup xs => exact bindGs_len' (gs := gs) (xs := xs) (by simpa only [bindG] using h)
    | _ => simp [bindG] at h
theorem bindGs_len' : ∀ {gs : List G} {xs : List MV} {ρ ρ' : Q.Env}, bindGs gs xs ρ = some ρ' → ρ'.length = ρ.length
  | [], [], _, _, h => by cases h; rfl
  | [], _ :: _, _, _, h => by simp [bindGs] at h
  | _ :: _, [], _, _, h => by simp [bindGs] at h
  | g :: gs, x :: xs, ρ, ρ', h => by
    simp only [bindGs] at h
    split at h
    · rename_i ρ1 e1
      rw [bindGs_len' h, bindG_len e1]
    · cases h
end
theorem ite_t {A B : Prop} (h : A) : if true = true then A else B := by rw [if_pos rfl]; exact h
theorem ite_f {A B : Prop} (h : B) : if false = true then A else B := by rw [if_neg Bool.false_ne_true]; exact h
theorem rd_lc (gd : Gd Γ X) {own : List Nat} {g : G} {fi : EVi} {fc fe : EV} (hsl : ∀ j ∈ g.slots, j ∈ own) {H : Hp} {Q : VK} (h : RD Γ (fLc own g fi fc fe) σ H Q) :
    tLc (RI Γ false fi) (RG Γ g) (RDb Γ (vt fc)) (RD Γ fe) own σ H Q := by
  obtain ⟨w, ρ, z, M', hH, k, L, e, q⟩ := h
  obtain ⟨xs, M1, e1, e2⟩ := bind_ok e
  obtain ⟨ys, M2, e3, e4⟩ := bind_ok e2
  cases e4
  refine ⟨w, ρ, xs, M1, hH, k, L, e1, fun w1 J l1 k1 em it D hD => ?_⟩
  refine ⟨fun i m H => ∃ w2 acc vs, w2.H = H ∧ Mk1 Γ w1 w2 D acc vs ∧ i ≤ xs.length ∧ m = xs.length - i ∧ lcL (fStep g own fc fe ρ) (xs.drop i) acc w2.M = .ok ys M', ?_, ?_⟩
  · obtain ⟨w2, h2, m2, mk⟩ := Mk1.start k1 hD
    exact ⟨xs.length, w2, [], [], h2, mk, Nat.zero_le _, rfl, by rw [m2, em]; exact e3⟩
  · rintro i m H ⟨w2, acc, vs, rfl, mk, hi, hm, el⟩
    obtain ⟨it1, it2⟩ := it w2 mk.k mk.l
    by_cases c : i = xs.length
    · subst c
      rw [List.drop_length] at el
      cases el
      exact .inl ⟨it2 _ (Nat.le_refl _), q w2 _ (l1.trans mk.l) mk.k rfl mk.val fun a ea => by cases ea; exact l1.le.tr D hD⟩
    · have hi' : i < xs.length := by omega
      have hx : xs[i]? = some xs[i] := List.getElem?_eq_getElem hi'
      obtain ⟨go, yld⟩ := it1 i _ hx
      rw [drop_cons hx] at el
      obtain ⟨o, M3, e5, e6⟩ := bind_ok el
      obtain ⟨ρ1, t, M4, b1, b2, b3⟩ := step_read e5
      refine .inr ⟨go, fun H' => ∃ w2 acc vs, w2.H = H' ∧ Mk1 Γ w1 w2 D acc vs ∧ i + 1 ≤ xs.length ∧ lcL (fStep g own fc fe ρ) (xs.drop (i + 1)) acc w2.M = .ok ys M', fun H' ⟨w3, acc3, vs3, h3, mk3, hi3, el3⟩ => ⟨xs.length - (i + 1), by omega, w3, acc3, vs3, h3, mk3, hi3, rfl, el3⟩, fun u H' hy => ?_⟩
      obtain ⟨w3, rfl, k3, l3, m3, rx⟩ := yld u H' hy
      have mk3 := mk.le l3 k3
      have L3 : LOK Γ w3 ρ σ := L.le (l1.trans mk3.l) k
      refine ⟨w3, wipe ρ own, _, ρ1, rfl, k3, L3.wipe own, rx, b1, fun σ2 Lb s2 => ⟨?_, ?_⟩⟩
      · have hlen : σ2.length = σ.length := by
          have e1 := Lb.len
          have e2 := bindG_len b1
          have e3 : (wipe ρ own).length = (L2.wipe σ own).length := (L3.wipe own).len
          rw [wipe_length] at e3
          omega
        exact wipe_eq hlen fun j hj => by rw [s2 j fun z => hj (hsl j z), wipe_out hj]
      · refine ⟨w3, ρ1, t, M4, rfl, k3, Lb, by rw [m3]; exact b2, fun w4 l4 k4 em4 => ?_⟩
        have mk4 := mk3.le l4 k4
        cases t with
        | true =>
          rw [if_pos rfl] at b3
          refine ite_t ?_
          obtain ⟨y, uu, b4, b5, rfl⟩ := b3
          refine ⟨w4, ρ1, y, M3, rfl, k4, Lb.le l4 k3, by rw [em4]; exact b4, fun w5 v5 l5 k5 em5 r5 n5 => ?_⟩
          obtain ⟨w6, h6, m6, o6, k6, l6, s6, r6⟩ := r5.keep k5 l5 n5 b5
          have mk6 := mk4.le l6 k6
          rw [← h6]
          obtain ⟨w7, h7, m7, mk7⟩ := mk6.add r6
          obtain ⟨hz, e7⟩ := ite_ok e6
          refine ⟨vs, mk6.h, by rw [← mk6.r.length, ← SZ_eq]; exact hz, w7, _, _, h7, mk7, hi', ?_⟩
          rw [m7, m6, em5]
          exact e7
        | false =>
          rw [if_neg Bool.false_ne_true] at b3
          refine ite_f ?_
          obtain ⟨rfl, rfl⟩ := b3
          refine ⟨w4, acc, vs, rfl, mk4, hi', ?_⟩
          rw [em4]
          exact e6
end
end Q

/-! EvM: statements. -/
namespace Q
open PySem L2
section
variable {Γ : Gam} {X : Cx} {w w0 : Wd} {ρ ρ' : Q.Env} {σ σ' : St}

abbrev EVS := Q.Env → Store → Res (Out × Q.Env)
def End (Γ : Gam) (w : Wd) (M' : Store) (D : Ends) (o : Out) (ρ' : Q.Env) : Prop :=
  match o with
  | .ret v => ∀ w' u, LeS w w' → WOK Γ w' → w'.M = M' → Rep Γ w' v u → D.rt u w'.H
  | .nx => ∀ w' σ', LeS w w' → WOK Γ w' → w'.M = M' → LOK Γ w' ρ' σ' → D.nx σ' w'.H
  | .brk => ∀ w' σ', LeS w w' → WOK Γ w' → w'.M = M' → LOK Γ w' ρ' σ' → D.bk σ' w'.H
  | .ct => ∀ w' σ', LeS w w' → WOK Γ w' → w'.M = M' → LOK Γ w' ρ' σ' → D.ct σ' w'.H
theorem End.trans {M' : Store} {D : Ends} {o : Out} (h : End Γ w0 M' D o ρ') (l : LeS w0 w) : End Γ w M' D o ρ' := by
  cases o with
  | ret v => exact fun w' u l' => h w' u (l.trans l')
  | nx => exact fun w' u l' => h w' u (l.trans l')
  | brk => exact fun w' u l' => h w' u (l.trans l')
  | ct => exact fun w' u l' => h w' u (l.trans l')
def RS (Γ : Gam) (ev : EVS) : TS := fun D σ H => ∃ w ρ o ρ' M', w.H = H ∧ WOK Γ w ∧ LOK Γ w ρ σ ∧ ev ρ w.M = .ok (o, ρ') M' ∧ End Γ w M' D o ρ'

/-! ### one behind another -/
def fsNil : EVS := fun ρ M => .ok (.nx, ρ) M
def fsSeq (a b : EVS) : EVS := fun ρ M => (a ρ M).bind fun r M1 => match r.1 with
    | .nx => b r.2 M1
    | _ => .ok r M1
theorem ss_nil : PSs X [] (RS Γ fsNil) := pss_nil.imp fun D σ H h => by
  obtain ⟨w, ρ, o, ρ', M', hH, k, L, e, q⟩ := h
  cases e
  subst hH
  exact q w σ (LeS.refl w) k rfl L
theorem seq_read {a b : EVS} {D : Ends} {H : Hp} (h : RS Γ (fsSeq a b) D σ H) : RS Γ a { D with nx := RS Γ b D } σ H := by
  obtain ⟨w, ρ, o, ρ', M', hH, k, L, e, q⟩ := h
  obtain ⟨⟨o1, ρ1⟩, M1, e1, e2⟩ := bind_ok e
  cases o1 with
  | nx => exact ⟨w, ρ, .nx, ρ1, M1, hH, k, L, e1, fun w' σ' l' k' em L' => ⟨w', ρ1, o, ρ', M', rfl, k', L', by rw [em]; exact e2, q.trans l'⟩⟩
  | brk => cases e2; exact ⟨w, ρ, .brk, _, _, hH, k, L, e1, q⟩
  | ct => cases e2; exact ⟨w, ρ, .ct, _, _, hH, k, L, e1, q⟩
  | ret v => cases e2; exact ⟨w, ρ, .ret v, _, _, hH, k, L, e1, q⟩
theorem ss_cons {a b : EVS} {st : Stmt} {sts : List Stmt} (ha : PS X st (RS Γ a)) (hb : PSs X sts (RS Γ b)) : PSs X (st :: sts) (RS Γ (fsSeq a b)) :=
  (pss_cons ha hb).imp fun D σ H h => seq_read h

/-! ### name = value -/
theorem setV_ok {i : Nat} {u : MV} (h : setV ρ i u = some ρ') : i < ρ.length ∧ ρ' = ρ.set i (some (.v u)) := by
  unfold setV at h
  split at h
  · rename_i c; cases h; exact ⟨c, rfl⟩
  · cases h
theorem nxt_ok {r : Option Q.Env} {M M' : Store} {o : Out} (h : nxt r M = .ok (o, ρ') M') : r = some ρ' ∧ o = .nx ∧ M' = M := by
  cases r with
  | none => cases h
  | some ρ1 => cases h; exact ⟨rfl, rfl, rfl⟩
def fsSet (i : Nat) (f : EV) : EVS := fun ρ M => ((f ρ M).bind fun x M1 => ofO x.frz M1).bind fun x M1 => nxt (setV ρ i x) M1
/-- an assignment to the name in slot i, by the value's reading -/
abbrev SetOk (Γ : Gam) (X : Cx) (i : Nat) (f : EV) (st : Stmt) : Prop := PS X st (tAsg (RD Γ f) (gName i))
theorem st_set {i : Nat} {f : EV} {st : Stmt} (h : SetOk Γ X i f st) : PS X st (RS Γ (fsSet i f)) := h.imp fun D σ H h => by
  obtain ⟨w, ρ, o, ρ', M', hH, k, L, e, q⟩ := h
  obtain ⟨y, M1, e1, e2⟩ := bind_ok e
  obtain ⟨x, M2, e3, e4⟩ := bind_ok e1
  obtain ⟨e4', rfl⟩ := ofO_ok e4
  obtain ⟨e2', rfl, rfl⟩ := nxt_ok e2
  obtain ⟨hi, rfl⟩ := setV_ok e2'
  refine ⟨w, ρ, x, _, hH, k, L, e3, fun w1 u l1 k1 em r1 n1 => ?_⟩
  obtain ⟨w2, h2, m2, o2, k2, l2, s2, r2⟩ := r1.keep k1 l1 n1 e4'
  show D.nx (σ.set i (some u)) w1.H
  rw [← h2]
  exact q w2 _ l2.s k2 (m2.trans em) ((L.le l2 k).setv hi r2)
/-- .. with one more of its own; with one frozen -/
def Wd.own (w : Wd) (a : Addr) : Wd := { w with O := fun b => w.O b ∨ b = a }
def Wd.fr (w : Wd) (a : Addr) : Wd := { w with F := fun b => w.F b ∨ b = a, O := fun b => w.O b ∧ b ≠ a }
/-- a new object becomes a name's own -/
theorem ownW (k : WOK Γ w) {w0 : Wd} (l : LeS w0 w) {a : Addr} (h : w.H a ≠ none) (h0 : w0.H a = none) (nF : ¬ w.F a) (nal : ¬ w.al a) :
    WOK Γ (w.own a) ∧ LeS w0 (w.own a) := by
  refine ⟨⟨k.hF, fun b z => z.elim (k.hO b) fun e => e ▸ h, fun n o e => RepO.stay (k.obj n o e) (stayO w _) fun _ h => h, k.inj, k.lt, fun b f z => z.elim (k.FO b f) fun e => nF (e ▸ f), k.Fal, fun b z => z.elim (k.Oal b) fun e => e ▸ nal⟩, ⟨⟨l.le.keep, l.le.F, l.le.Fm, l.le.al, l.le.μ, l.le.nx, l.le.tr⟩, fun b z => z.elim (l.O b) fun e => .inl (e ▸ h0)⟩⟩
theorem stay_own (k : WOK Γ w) {O' : Addr → Prop} (hO : ∀ a, w.O a → O' a) (L : LOK Γ w ρ σ) : LOK Γ { w with O := O' } ρ σ := L.stay (stayO w O') hO fun _ _ _ h => h
def fsOwn (i : Nat) (f : EV) : EVS := fun ρ M => (f ρ M).bind fun x M1 => nxt (setO ρ i x) M1
theorem st_own {i : Nat} {f : EV} {st : Stmt} (h : SetOk Γ X i f st) : PS X st (RS Γ (fsOwn i f)) := h.imp fun D σ H h => by
  obtain ⟨w, ρ, o, ρ', M', hH, k, L, e, q⟩ := h
  obtain ⟨x, M1, e1, e2⟩ := bind_ok e
  obtain ⟨e2', rfl, rfl⟩ := nxt_ok e2
  refine ⟨w, ρ, x, _, hH, k, L, e1, fun w1 u l1 k1 em r1 n1 => ?_⟩
  show D.nx (σ.set i (some u)) w1.H
  unfold setO at e2'
  split at e2'
  · rename_i hi
    split at e2'
    · rename_i xs
      cases e2'
      obtain ⟨a, vs, rfl, h1, rs, nF, nO, nal⟩ := r1
      obtain ⟨k2, l2⟩ := ownW k1 l1.s (by rw [h1]; exact fun z => nomatch z) (n1 a rfl) nF nal
      refine q (w1.own a) _ l2 k2 em ((stay_own k1 (O' := fun b => w1.O b ∨ b = a) (fun _ => Or.inl) (L.le l1 k)).put hi (fun _ e => nomatch e) (fun ys e => ?_) (fun _ _ e => nomatch e) (fun _ e => nomatch e) fun j b hj oj z => ?_)
      · cases e; exact ⟨a, vs, rfl, h1, rs.stay (stayO w1 _), .inr rfl⟩
      · rcases z with ⟨_, z⟩ | z
        · cases z
        · refine .inr fun e => ?_
          cases e
          rcases oj with ⟨ys, oj⟩ | ⟨t, kvs, oj⟩
          · obtain ⟨b, _, e1, _, _, ob⟩ := (L.le l1 k).ol j ys oj
            rw [z] at e1; cases e1; exact nO ob
          · obtain ⟨b, e1, _, ob⟩ := (L.le l1 k).od j t kvs oj
            rw [z] at e1; cases e1; exact nO ob
    · rename_i t kvs
      cases e2'
      obtain ⟨a, rfl, h1, nF, nO, nal⟩ := r1
      obtain ⟨ho, h1'⟩ := h1.some
      obtain ⟨k2, l2⟩ := ownW k1 l1.s (by rw [h1']; exact fun z => nomatch z) (n1 a rfl) nF nal
      refine q (w1.own a) _ l2 k2 em ((stay_own k1 (O' := fun b => w1.O b ∨ b = a) (fun _ => Or.inl) (L.le l1 k)).put hi (fun _ e => nomatch e) (fun _ e => nomatch e) (fun t' ys e => ?_) (fun _ e => nomatch e) fun j b hj oj z => ?_)
      · cases e; exact ⟨a, rfl, h1.stay (stayO w1 _) fun _ h => h, .inr rfl⟩
      · rcases z with ⟨_, z⟩ | z
        · cases z
        · refine .inr fun e => ?_
          cases e
          rcases oj with ⟨ys, oj⟩ | ⟨t, kvs, oj⟩
          · obtain ⟨b, _, e1, _, _, ob⟩ := (L.le l1 k).ol j ys oj
            rw [z] at e1; cases e1; exact nO ob
          · obtain ⟨b, e1, _, ob⟩ := (L.le l1 k).od j t kvs oj
            rw [z] at e1; cases e1; exact nO ob
    · exact r1.elim
    · cases e2'
  · cases e2'
/-- (a, b) = value -/
def fsAsg (g : G) (f : EV) : EVS := fun ρ M => ((f ρ M).bind fun x M1 => ofO x.frz M1).bind fun x M1 => nxt (bindG g x ρ) M1
theorem st_asg {g : G} {f : EV} {tg e : Expr} {pos : Pos} (he : Snd Γ X f e) (hg : PG X tg (RG Γ g)) (hs : swapsWithSole [tg] e pos.line X.env = pure false) (hw : swappedStores [tg] e X.env = pure none)
    (h1 : (assignEach [tg] X.env).map (·.2) = [assign tg X.env]) : PS X (.Assign [tg] e pos) (RS Γ (fsAsg g f)) := (ps_asg he.pe hg hs hw h1).imp fun D σ H h => by
  obtain ⟨w, ρ, o, ρ', M', hH, k, L, e, q⟩ := h
  obtain ⟨y, M1, e1, e2⟩ := bind_ok e
  obtain ⟨x, M2, e3, e4⟩ := bind_ok e1
  obtain ⟨e4', rfl⟩ := ofO_ok e4
  obtain ⟨e2', rfl, rfl⟩ := nxt_ok e2
  refine ⟨w, ρ, x, _, hH, k, L, e3, fun w1 u l1 k1 em r1 n1 => ?_⟩
  obtain ⟨w2, h2, m2, o2, k2, l2, s2, r2⟩ := r1.keep k1 l1 n1 e4'
  exact ⟨w2, ρ, y, ρ', h2, k2, L.le l2 k, r2, e2', fun σ' L' _ => by rw [← h2]; exact q w2 σ' l2.s k2 (m2.trans em) L'⟩

/-! ### expressions, tests, returns -/
def fsExpr (f : EV) : EVS := fun ρ M => (f ρ M).bind fun _ M1 => .ok (.nx, ρ) M1
theorem st_expr {f : EV} {e : Expr} {pos : Pos} (he : Snd Γ X f e) (hs : swapsWith e none pos.line X.env = pure false) : PS X (.Expr e pos) (RS Γ (fsExpr f)) := (ps_expr he.pe hs).imp fun D σ H h => by
  obtain ⟨w, ρ, o, ρ', M', hH, k, L, e, q⟩ := h
  obtain ⟨x, M1, e1, e2⟩ := bind_ok e
  cases e2
  exact ⟨w, ρ, x, _, hH, k, L, e1, fun w1 u l1 k1 em r1 n1 => q w1 σ l1.s k1 em (L.le l1 k)⟩
def fsIf (fc : EV) (a b : EVS) : EVS := fun ρ M => (vt fc ρ M).bind fun t M1 => if t then a ρ M1 else b ρ M1
theorem st_if {fc : EV} {c : Expr} {a b : EVS} {as bs : List Stmt} {pos : Pos} (hc : Snd Γ X fc c) (ha : PSs X as (RS Γ a)) (hb : PSs X bs (RS Γ b)) : PS X (.If c as bs pos) (RS Γ (fsIf fc a b)) := (ps_if hc.pt ha hb).imp fun D σ H h => by
  obtain ⟨w, ρ, o, ρ', M', hH, k, L, e, q⟩ := h
  obtain ⟨t, M1, e1, e2⟩ := bind_ok e
  refine ⟨w, ρ, t, M1, hH, k, L, e1, fun w1 l1 k1 em => ?_⟩
  subst em
  cases t with
  | true => rw [if_pos rfl] at e2; exact ite_t ⟨w1, ρ, o, ρ', M', rfl, k1, L.le l1 k, e2, q.trans l1.s⟩
  | false => rw [if_neg Bool.false_ne_true] at e2; exact ite_f ⟨w1, ρ, o, ρ', M', rfl, k1, L.le l1 k, e2, q.trans l1.s⟩
/-- a name's own object is frozen -/
theorem frzW (k : WOK Γ w) {a : Addr} (ho : w.O a) : WOK Γ (w.fr a) ∧ LeS w (w.fr a) ∧ Stay w (w.fr a) := by
  have st : Stay w (w.fr a) := ⟨fun b z => ⟨.inl z, rfl⟩, fun _ _ => rfl, Nat.le_refl _⟩
  exact ⟨⟨fun b z => z.elim (k.hF b) fun e => e ▸ k.hO a ho, fun b z => k.hO b z.1, fun n o e => RepO.stay (k.obj n o e) st fun _ h => h, k.inj, k.lt, fun b z o => z.elim (fun z => k.FO b z o.1) fun e => o.2 e, fun b z o => z.elim (fun z => k.Fal b z o) fun e => k.Oal a ho (e ▸ o), fun b z => k.Oal b z.1⟩,
    ⟨⟨fun _ _ h _ => h, fun _ h => .inl h, fun b z => z.elim .inl fun e => .inr (.inr (.inr (e ▸ ho))), fun b h => .inr (.inl h), fun _ _ => rfl, Nat.le_refl _, fun _ h => h⟩, fun b z => .inr (.inr z.1)⟩, st⟩
theorem RepD.frz {t : Bool} {kvs : List (KY × MV)} {a : Addr} (h : w.F a) (d : RepD Γ w t kvs a) : Rep Γ w (.dct .fz t kvs) (.ref a) := by
  unfold RepD at d
  cases t with
  | true => rw [if_pos rfl] at d; obtain ⟨ps, h1, r⟩ := d; exact .dT h h1 r
  | false => rw [if_neg Bool.false_ne_true] at d; obtain ⟨ps, h1, r⟩ := d; exact .dK h h1 r
theorem outW (k : WOK Γ w) {w0 : Wd} (l : LeE w0 w) {x : MV} {v : V} (r : RepV Γ w x v) (n : New w0.H x v) : ∃ w' : Wd, w'.H = w.H ∧ w'.M = w.M ∧ WOK Γ w' ∧ LeS w0 w' ∧ Rep Γ w' x.out v := by
  cases x with
  | lst kd xs =>
    cases kd with
    | fz => exact ⟨w, rfl, rfl, k, l.s, r⟩
    | ro => exact ⟨w, rfl, rfl, k, l.s, r⟩
    | nw =>
      obtain ⟨w', h1, m1, o1, k1, l1, s1, r1⟩ := r.keep k l n (y := .lst .fz xs) rfl
      exact ⟨w', h1, m1, k1, l1.s, r1⟩
    | bw =>
      obtain ⟨a, vs, rfl, h1, rs, o⟩ := r
      obtain ⟨k', l', s'⟩ := frzW k o
      exact ⟨w.fr a, rfl, rfl, k', l.s.trans l', .lst (.inr rfl) h1 (rs.stay s')⟩
  | dct kd t xs =>
    cases kd with
    | fz => exact ⟨w, rfl, rfl, k, l.s, r⟩
    | ro => cases (show Rep Γ w _ _ from r)
    | nw =>
      obtain ⟨w', h1, m1, o1, k1, l1, s1, r1⟩ := r.keep k l n (y := .dct .fz t xs) rfl
      exact ⟨w', h1, m1, k1, l1.s, r1⟩
    | bw =>
      obtain ⟨a, rfl, h1, o⟩ := r
      obtain ⟨k', l', s'⟩ := frzW k o
      exact ⟨w.fr a, rfl, rfl, k', l.s.trans l', RepD.frz (.inr rfl) (h1.stay s' fun _ h => h)⟩
  | st kd xs => exact r.elim
  | _ => exact ⟨w, rfl, rfl, k, l.s, r⟩
def fsRet (f : EV) : EVS := fun ρ M => (f ρ M).bind fun x M1 => .ok (.ret x.out, ρ) M1
theorem st_ret {f : EV} {e : Expr} {pos : Pos} (he : Snd Γ X f e) : PS X (.Return (some e) pos) (RS Γ (fsRet f)) := (ps_ret he.pe).imp fun D σ H h => by
  obtain ⟨w, ρ, o, ρ', M', hH, k, L, e, q⟩ := h
  obtain ⟨x, M1, e1, e2⟩ := bind_ok e
  cases e2
  refine ⟨w, ρ, x, _, hH, k, L, e1, fun w1 u l1 k1 em r1 n1 => ?_⟩
  obtain ⟨w2, h2, m2, k2, l2, r2⟩ := outW k1 l1 r1 n1
  rw [← h2]
  exact q w2 u l2 k2 (m2.trans em) r2
theorem st_retN {pos : Pos} : PS X (.Return none pos) (RS Γ fun ρ M => .ok (.ret .non, ρ) M) := ps_retN.imp fun D σ H h => by
  obtain ⟨w, ρ, o, ρ', M', hH, k, L, e, q⟩ := h
  cases e
  subst hH
  exact q w .non (LeS.refl w) k rfl .non
theorem st_brk {pos : Pos} : PS X (.Break pos) (RS Γ fun ρ M => .ok (.brk, ρ) M) := ps_break.imp fun D σ H h => by
  obtain ⟨w, ρ, o, ρ', M', hH, k, L, e, q⟩ := h
  cases e
  subst hH
  exact q w σ (LeS.refl w) k rfl L
theorem st_cnt {pos : Pos} : PS X (.Continue pos) (RS Γ fun ρ M => .ok (.ct, ρ) M) := ps_continue.imp fun D σ H h => by
  obtain ⟨w, ρ, o, ρ', M', hH, k, L, e, q⟩ := h
  cases e
  subst hH
  exact q w σ (LeS.refl w) k rfl L
theorem st_pass {pos : Pos} : PS X (.Pass pos) (RS Γ fun ρ M => .ok (.nx, ρ) M) := ps_pass.imp fun D σ H h => by
  obtain ⟨w, ρ, o, ρ', M', hH, k, L, e, q⟩ := h
  cases e
  subst hH
  exact q w σ (LeS.refl w) k rfl L
theorem st_stuck {st : Stmt} : PS X st (RS Γ fun _ _ => .stuck) := ps_never.imp fun D σ H h => by
  obtain ⟨w, ρ, o, ρ', M', hH, k, L, e, q⟩ := h
  cases e

/-! ### freeze and share: nothing in the text -/
def fsFrz (i : Nat) : EVS := fun ρ M => (match ρ[i]? with
    | some (some (.ol xs)) => .ok (.nx, ρ.set i (some (.v (.lst .fz xs)))) M
    | some (some (.od t kvs)) => .ok (.nx, ρ.set i (some (.v (.dct .fz t kvs)))) M
    | some (some (.os xs)) => .ok (.nx, ρ.set i (some (.v (.st .fz xs)))) M
    | some (some (.v _)) => .ok (.nx, ρ) M
    | _ => .stuck)
/-- the slot's object given away, all else as it was -/
theorem LOK.give {w' : Wd} (L : LOK Γ w ρ σ) {i : Nat} {a : Addr} (hO : Own ρ i) (ha : σ[i]? = some (some (.ref a))) (st : Stay w w') (hO' : ∀ b, w.O b → b ≠ a → w'.O b) (hh : ∀ b o, w.O b → w.H b = some o → w'.H b = some o) {m : MV} (r : Rep Γ w' m (.ref a)) :
    LOK Γ w' (ρ.set i (some (.v m))) σ := by
  have hi : i < σ.length := (List.getElem?_eq_some_iff.mp ha).1
  have g1 : ∀ j, (ρ.set i (some (SV.v m)))[j]? = if i = j then some (some (.v m)) else ρ[j]? := fun j => by
    rw [set_get]
    by_cases e : i = j
    · subst e; rw [if_pos ⟨rfl, L.len ▸ hi⟩, if_pos rfl]
    · rw [if_neg fun z => e z.1, if_neg e]
  have hown : ∀ j, Own (ρ.set i (some (SV.v m))) j → i ≠ j ∧ Own ρ j := fun j h => by
    rcases h with ⟨xs, h⟩ | ⟨t, kvs, h⟩ <;> rw [g1] at h <;> by_cases c : i = j
    · rw [if_pos c] at h; cases h
    · rw [if_neg c] at h; exact ⟨c, .inl ⟨xs, h⟩⟩
    · rw [if_pos c] at h; cases h
    · rw [if_neg c] at h; exact ⟨c, .inr ⟨t, kvs, h⟩⟩
  have apart : ∀ j b, i ≠ j → Own ρ j → σ[j]? = some (some (.ref b)) → b ≠ a := fun j b hij oj ej e => by
    subst e; exact L.un i j b hij hO oj ha ej
  refine ⟨by rw [List.length_set]; exact L.len, fun j x e => ?_, fun j xs e => ?_, fun j t kvs e => ?_, fun j xs e => ?_, fun j k b hjk oj ok ej ek => L.un j k b hjk (hown j oj).2 (hown k ok).2 ej ek⟩
  · rw [g1] at e
    by_cases c : i = j
    · rw [if_pos c] at e; cases e; exact ⟨.ref a, c ▸ ha, r⟩
    · rw [if_neg c] at e
      obtain ⟨u, e1, r1⟩ := L.v j x e
      exact ⟨u, e1, r1.stay st⟩
  · rw [g1] at e
    by_cases c : i = j
    · rw [if_pos c] at e; cases e
    · rw [if_neg c] at e
      obtain ⟨b, vs, e1, e2, r1, o1⟩ := L.ol j xs e
      exact ⟨b, vs, e1, hh b _ o1 e2, r1.stay st, hO' b o1 (apart j b c (.inl ⟨xs, e⟩) e1)⟩
  · rw [g1] at e
    by_cases c : i = j
    · rw [if_pos c] at e; cases e
    · rw [if_neg c] at e
      obtain ⟨b, e1, e2, o1⟩ := L.od j t kvs e
      exact ⟨b, e1, e2.stay st fun q hq => hh b q o1 hq, hO' b o1 (apart j b c (.inr ⟨t, kvs, e⟩) e1)⟩
  · rw [g1] at e
    by_cases c : i = j
    · rw [if_pos c] at e; cases e
    · rw [if_neg c] at e; exact L.os j xs e
theorem frz_read {i : Nat} {b : EVS} {D : Ends} {H : Hp} (h : RS Γ (fsSeq (fsFrz i) b) D σ H) : RS Γ b D σ H := by
  obtain ⟨w, ρ, o, ρ', M', hH, k, L, e, q⟩ := h
  obtain ⟨⟨o1, ρ1⟩, M1, e1, e2⟩ := bind_ok e
  unfold fsFrz at e1
  split at e1
  · rename_i xs es
    cases e1
    obtain ⟨a, vs, h1, h2, rs, oo⟩ := L.ol i xs es
    obtain ⟨k', l', s'⟩ := frzW k oo
    refine ⟨w.fr a, _, o, ρ', M', hH, k', L.give (.inl ⟨xs, es⟩) h1 s' (fun b hb hn => ⟨hb, hn⟩) (fun _ _ _ h => h) (.lst (.inr rfl) h2 (rs.stay s')), e2, q.trans l'⟩
  · rename_i t kvs es
    cases e1
    obtain ⟨a, h1, h2, oo⟩ := L.od i t kvs es
    obtain ⟨k', l', s'⟩ := frzW k oo
    refine ⟨w.fr a, _, o, ρ', M', hH, k', L.give (.inr ⟨t, kvs, es⟩) h1 s' (fun b hb hn => ⟨hb, hn⟩) (fun _ _ _ h => h) (RepD.frz (.inr rfl) (h2.stay s' fun _ h => h)), e2, q.trans l'⟩
  · rename_i xs es; exact absurd es (L.os i xs)
  · cases e1; exact ⟨w, _, o, ρ', M', hH, k, L, e2, q⟩
  · cases e1
end
end Q

/-! EvN: more statements: shared objects, appends, stores, loops. -/
namespace Q
open PySem L2
section
variable {Γ : Gam} {X : Cx} {w w0 : Wd} {ρ ρ' : Q.Env} {σ σ' : St} {T : Tab}

/-! ### a name's own object becomes a shared one -/
def Wd.sh (w : Wd) (a : Addr) (o : MObj) : Wd := ⟨w.F, fun n => if n = w.M.nx then a else w.μ n, w.H, w.M.add o, fun b => w.O b ∧ b ≠ a⟩
theorem shW (k : WOK Γ w) {a : Addr} {o : MObj} (ho : w.O a) (ro : RepO Γ w o a) : WOK Γ (w.sh a o) ∧ LeS w (w.sh a o) ∧ Stay w (w.sh a o) ∧ Rep Γ (w.sh a o) (.ref w.M.nx) (.ref a) := by
  have hob : ∀ n o', (w.M.add o).ob n = some o' → (n = w.M.nx ∧ o' = o) ∨ (n ≠ w.M.nx ∧ w.M.ob n = some o') := fun n o' e => by
    by_cases c : n = w.M.nx
    · rw [show (w.M.add o).ob n = if n = w.M.nx then some o else w.M.ob n from rfl, if_pos c] at e; cases e; exact .inl ⟨c, rfl⟩
    · rw [show (w.M.add o).ob n = if n = w.M.nx then some o else w.M.ob n from rfl, if_neg c] at e; exact .inr ⟨c, e⟩
  have hal : ∀ b, (w.sh a o).al b → b = a ∨ w.al b := fun b ⟨n, o', e, h⟩ => by
    have h' : (if n = w.M.nx then a else w.μ n) = b := h
    rcases hob n o' e with ⟨c, _⟩ | ⟨c, e⟩
    · rw [if_pos c] at h'; exact .inl h'.symm
    · rw [if_neg c] at h'; exact .inr ⟨n, o', e, h'⟩
  have st : Stay w (w.sh a o) := ⟨fun b h => ⟨h, rfl⟩, fun n h => if_neg (Nat.ne_of_lt h), Nat.le_succ _⟩
  have nal : ¬ w.al a := k.Oal a ho
  refine ⟨⟨k.hF, fun b z => k.hO b z.1, fun n o' e => ?_, fun n m o' p e1 e2 e3 => ?_, fun n o' e => ?_, fun b f z => k.FO b f z.1, fun b h h2 => ?_, fun b h h2 => ?_⟩, ⟨⟨fun _ _ h _ => h, fun _ h => h, fun _ h => .inl h, fun b h => ?_, fun n h => if_neg (Nat.ne_of_lt h), Nat.le_succ _, fun _ h => h⟩, fun b z => .inr (.inr z.1)⟩, st, ?_⟩
  · show RepO Γ (w.sh a o) o' (if n = w.M.nx then a else w.μ n)
    rcases hob n o' e with ⟨c, rfl⟩ | ⟨c, e⟩
    · rw [if_pos c]; exact RepO.stay ro st fun _ h => h
    · rw [if_neg c]; exact RepO.stay (k.obj n o' e) st fun _ h => h
  · have e3' : (if n = w.M.nx then a else w.μ n) = (if m = w.M.nx then a else w.μ m) := e3
    have hx : ∀ n o, w.M.ob n = some o → w.μ n ≠ a := fun n o e z => nal ⟨n, o, e, z⟩
    rcases hob n o' e1 with ⟨c1, _⟩ | ⟨c1, e1⟩ <;> rcases hob m p e2 with ⟨c2, _⟩ | ⟨c2, e2⟩
    · rw [c1, c2]
    · rw [if_pos c1, if_neg c2] at e3'; exact absurd e3'.symm (hx m p e2)
    · rw [if_neg c1, if_pos c2] at e3'; exact absurd e3' (hx n o' e1)
    · rw [if_neg c1, if_neg c2] at e3'; exact k.inj n m o' p e1 e2 e3'
  · rcases hob n o' e with ⟨c, _⟩ | ⟨c, e⟩
    · rw [c]; exact Nat.lt_succ_self _
    · exact Nat.lt_succ_of_lt (k.lt n o' e)
  · rcases hal b h2 with z | z
    · exact k.FO b h (z ▸ ho)
    · exact k.Fal b h z
  · rcases hal b h2 with z | z
    · exact h.2 z
    · exact k.Oal b h.1 z
  · rcases hal b h with z | z
    · exact .inr (.inr (z ▸ ho))
    · exact .inr (.inl z)
  · have : Rep Γ (w.sh a o) (.ref w.M.nx) (.ref ((w.sh a o).μ w.M.nx)) := .ref (Nat.lt_succ_self _)
    rw [show (w.sh a o).μ w.M.nx = a from if_pos rfl] at this
    exact this
def fsShr (i : Nat) : EVS := fun ρ M => (match ρ[i]? with
    | some (some (.ol xs)) => .ok (.nx, ρ.set i (some (.v (.ref M.nx)))) (M.add (.lst xs))
    | some (some (.od t kvs)) => .ok (.nx, ρ.set i (some (.v (.ref M.nx)))) (M.add (.dct t kvs))
    | _ => .stuck)
theorem shr_read {i : Nat} {b : EVS} {D : Ends} {H : Hp} (h : RS Γ (fsSeq (fsShr i) b) D σ H) : RS Γ b D σ H := by
  obtain ⟨w, ρ, o, ρ', M', hH, k, L, e, q⟩ := h
  obtain ⟨⟨o1, ρ1⟩, M1, e1, e2⟩ := bind_ok e
  unfold fsShr at e1
  split at e1
  · rename_i xs es
    cases e1
    obtain ⟨a, vs, h1, h2, rs, oo⟩ := L.ol i xs es
    obtain ⟨k', l', s', r'⟩ := shW k (o := .lst xs) oo ⟨vs, h2, rs⟩
    exact ⟨w.sh a (.lst xs), _, o, ρ', M', hH, k', L.give (.inl ⟨xs, es⟩) h1 s' (fun b hb hn => ⟨hb, hn⟩) (fun _ _ _ h => h) r', e2, q.trans l'⟩
  · rename_i t kvs es
    cases e1
    obtain ⟨a, h1, h2, oo⟩ := L.od i t kvs es
    obtain ⟨k', l', s', r'⟩ := shW k (o := .dct t kvs) oo h2
    exact ⟨w.sh a (.dct t kvs), _, o, ρ', M', hH, k', L.give (.inr ⟨t, kvs, es⟩) h1 s' (fun b hb hn => ⟨hb, hn⟩) (fun _ _ _ h => h) r', e2, q.trans l'⟩
  · cases e1

/-! ### a name's own object is written -/
theorem writeS (k : WOK Γ w) {a : Addr} (ho : HO) (oa : w.O a) : WOK Γ { w with H := upd w.H a ho } ∧ LeS w { w with H := upd w.H a ho } ∧ Stay w { w with H := upd w.H a ho } ∧ ∀ b, b ≠ a → upd w.H a ho b = w.H b := by
  have hne : ∀ b, b ≠ a → upd w.H a ho b = w.H b := fun b h => upd_ne h
  have st : Stay w { w with H := upd w.H a ho } := ⟨fun b h => ⟨h, hne b fun z => k.FO b h (z ▸ oa)⟩, fun _ _ => rfl, Nat.le_refl _⟩
  refine ⟨⟨fun b h => ?_, fun b h => ?_, fun n o e => RepO.stay (k.obj n o e) st fun q hq => (hne _ fun z => k.Oal a oa ⟨n, o, e, z⟩).trans hq, k.inj, k.lt, k.FO, k.Fal, k.Oal⟩,
    ⟨⟨fun b q hq hm => (hne b fun z => hm (.inr (z ▸ oa))).trans hq, fun _ h => h, fun _ h => .inl h, fun b h => .inr (.inl h), fun _ _ => rfl, Nat.le_refl _, fun b h => ?_⟩, fun b h => .inr (.inr h)⟩, st, hne⟩
  · show upd w.H a ho b ≠ none
    rw [hne b fun z => k.FO b h (z ▸ oa)]; exact k.hF b h
  · show upd w.H a ho b ≠ none
    by_cases c : b = a
    · rw [c, upd_same]; exact fun z => nomatch z
    · rw [hne b c]; exact k.hO b h
  · have h' : upd w.H a ho b = none := h
    by_cases z : b = a
    · rw [z, upd_same] at h'; cases h'
    · rw [hne b z] at h'; exact h'
/-- the slot's object has another content -/
theorem LOK.rewrite {w' : Wd} (L : LOK Γ w ρ σ) {i : Nat} {a : Addr} (hO : Own ρ i) (ha : σ[i]? = some (some (.ref a))) (st : Stay w w') (hO' : w'.O = w.O) (hh : ∀ b, b ≠ a → w'.H b = w.H b) {sv : SV}
    (hs : (∃ xs vs, sv = .ol xs ∧ w'.H a = some (.lst vs) ∧ Reps Γ w' xs vs) ∨ ∃ t kvs, sv = .od t kvs ∧ RepD Γ w' t kvs a) (oa : w.O a) : LOK Γ w' (ρ.set i (some sv)) σ := by
  have hi : i < σ.length := (List.getElem?_eq_some_iff.mp ha).1
  have g1 : ∀ j, (ρ.set i (some sv))[j]? = if i = j then some (some sv) else ρ[j]? := fun j => by
    rw [set_get]
    by_cases e : i = j
    · subst e; rw [if_pos ⟨rfl, L.len ▸ hi⟩, if_pos rfl]
    · rw [if_neg fun z => e z.1, if_neg e]
  have hown : ∀ j, Own (ρ.set i (some sv)) j → Own ρ j := fun j h => by
    by_cases c : i = j
    · exact c ▸ hO
    · rcases h with ⟨xs, h⟩ | ⟨t, kvs, h⟩ <;> rw [g1, if_neg c] at h
      · exact .inl ⟨xs, h⟩
      · exact .inr ⟨t, kvs, h⟩
  have apart : ∀ j b, i ≠ j → Own ρ j → σ[j]? = some (some (.ref b)) → b ≠ a := fun j b hij oj ej e => by
    subst e; exact L.un i j b hij hO oj ha ej
  refine ⟨by rw [List.length_set]; exact L.len, fun j x e => ?_, fun j xs e => ?_, fun j t kvs e => ?_, fun j xs e => ?_, fun j k b hjk oj ok ej ek => L.un j k b hjk (hown j oj) (hown k ok) ej ek⟩
  · rw [g1] at e
    by_cases c : i = j
    · rw [if_pos c] at e; cases e
      rcases hs with ⟨_, _, z, _⟩ | ⟨_, _, z, _⟩ <;> cases z
    · rw [if_neg c] at e
      obtain ⟨u, e1, r1⟩ := L.v j x e
      exact ⟨u, e1, r1.stay st⟩
  · rw [g1] at e
    by_cases c : i = j
    · rw [if_pos c] at e; cases e
      rcases hs with ⟨ys, vs, z, h1, h2⟩ | ⟨_, _, z, _⟩
      · cases z; exact ⟨a, vs, c ▸ ha, h1, h2, by rw [hO']; exact oa⟩
      · cases z
    · rw [if_neg c] at e
      obtain ⟨b, vs, e1, e2, r1, o1⟩ := L.ol j xs e
      exact ⟨b, vs, e1, (hh b (apart j b c (.inl ⟨xs, e⟩) e1)).trans e2, r1.stay st, by rw [hO']; exact o1⟩
  · rw [g1] at e
    by_cases c : i = j
    · rw [if_pos c] at e; cases e
      rcases hs with ⟨_, _, z, _⟩ | ⟨t', kvs', z, h1⟩
      · cases z
      · cases z; exact ⟨a, c ▸ ha, h1, by rw [hO']; exact oa⟩
    · rw [if_neg c] at e
      obtain ⟨b, e1, e2, o1⟩ := L.od j t kvs e
      exact ⟨b, e1, e2.stay st fun q hq => (hh b (apart j b c (.inr ⟨t, kvs, e⟩) e1)).trans hq, by rw [hO']; exact o1⟩
  · rw [g1] at e
    by_cases c : i = j
    · rw [if_pos c] at e; cases e
      rcases hs with ⟨_, _, z, _⟩ | ⟨_, _, z, _⟩ <;> cases z
    · rw [if_neg c] at e; exact L.os j xs e
def fsApp (i : Nat) (f : EV) : EVS := fun ρ M => ((f ρ M).bind fun x M1 => ofO x.frz M1).bind fun u M1 => match ρ[i]? with
    | some (some (.ol xs)) => if xs.length < SZ then .ok (.nx, ρ.set i (some (.ol (xs ++ [u])))) M1 else .stuck
    | _ => .stuck
theorem st_app (g : Gd Γ X) {i : Nat} {x : Str} {f : EV} {e : Expr} {p apos cpos pos : Pos} (hN : X.N[i]? = some x) (hv : Vis X.env.scope x) (hd : (x == ("__debug__" : Str)) = false) (hcd : (x == ("__classdict__" : Str)) = false) (he : Snd Γ X f e) (ns : NoStar e) (hl : (apos.endLine == cpos.line) = true) :
    PS X (.Expr (.Call (.Attribute (.Name x p) "append" apos) [e] [] cpos) pos) (RS Γ (fsApp i f)) := by
  have hns : ∀ y ∈ [e], NoStar y := fun y hy => by rw [List.mem_singleton.mp hy]; exact ns
  have hfew : ((backTo cpos (starEach [e] X.env)).all (fun x => !x.1) && (backToKw cpos (keywordEach [] X.env)).all (fun x => x.1.isSome)
      && decide (([e] : List Expr).length + ([] : List Keyword).length + (if ([] : List Keyword).isEmpty then 0 else 1) < 30)) = true := by
    rw [star_all hns]; rfl
  refine (ps_expr (pe_bm PySem.F.plainAttrs_list PySem.F.slot_list_append PySem.F.type_list_append mt_append (pe_var hN hv hd hcd) (pa_cons he.pe pa_nil (ns _ _)) (plainO_ok rfl _ _ _) hfew hl (ns _ _) rfl) rfl).imp fun D σ H h => ?_
  obtain ⟨w, ρ, o, ρ', M', hH, k, L, e, q⟩ := h
  obtain ⟨y, M1, e1, e2⟩ := bind_ok e
  obtain ⟨x, M2, e3, e4⟩ := bind_ok e1
  obtain ⟨e4', rfl⟩ := ofO_ok e4
  split at e2
  · rename_i xs es
    obtain ⟨hz, e5⟩ := ite_ok e2
    cases e5
    obtain ⟨a, vs, h1, h2, rs, oo⟩ := L.ol i xs es
    refine ⟨.ref a, h1, .inl ⟨rfl, vs, SqL.of (by rw [← hH]; exact h2)⟩, ?_⟩
    refine ⟨w, ρ, x, _, hH, k, L, e3, fun w1 u l1 k1 em r1 n1 => ?_⟩
    obtain ⟨w2, h3, m3, o3, k3, l3, s3, r3⟩ := r1.keep k1 l1 n1 e4'
    rw [← h3]
    have L3 := L.le l3 k
    obtain ⟨a', vs', g1, g2, g3, g4⟩ := L3.ol i xs es
    rw [h1] at g1
    cases g1
    obtain ⟨k4, l4, s4, hne⟩ := writeS k3 (.lst (vs' ++ [u])) g4
    refine ⟨a, vs', u, rfl, rfl, g2, by rw [← g3.length, ← SZ_eq]; exact hz, ?_⟩
    exact q { w2 with H := upd w2.H a (.lst (vs' ++ [u])) } σ (l3.s.trans l4) k4 (m3.trans em) (L3.rewrite (.inl ⟨xs, es⟩) h1 s4 rfl hne (.inl ⟨_, _, rfl, upd_same, (g3.stay s4).append (.cons (r3.stay s4) .nil)⟩) g4)
  · cases e2

/-- g = name.pop() -/
def fsPop0 (g : G) (i : Nat) : EVS := fun ρ M => match ρ[i]? with
    | some (some (.ol xs)) => (match xs[xs.length - 1]? with
      | some y => nxt (bindG g y (ρ.set i (some (.ol xs.dropLast)))) M
      | none => .stuck)
    | _ => .stuck
theorem st_pop0 (gd : Gd Γ X) {g : G} {i : Nat} {x : Str} {tg : Expr} {p apos cpos pos : Pos} (hN : X.N[i]? = some x) (hv : Vis X.env.scope x) (hd : (x == ("__debug__" : Str)) = false) (hcd : (x == ("__classdict__" : Str)) = false) (hl : (apos.endLine == cpos.line) = true)
    (hg : PG X tg (RG Γ g)) (hs : swapsWithSole [tg] (.Call (.Attribute (.Name x p) "pop" apos) [] [] cpos) pos.line X.env = pure false) (hw : swappedStores [tg] (.Call (.Attribute (.Name x p) "pop" apos) [] [] cpos) X.env = pure none) (h1 : (assignEach [tg] X.env).map (·.2) = [assign tg X.env]) :
    PS X (.Assign [tg] (.Call (.Attribute (.Name x p) "pop" apos) [] [] cpos) pos) (RS Γ (fsPop0 g i)) := by
  refine (ps_asg (pe_bm0 PySem.F.plainAttrs_list PySem.F.slot_list_pop PySem.F.type_list_pop mt_pop (pe_var hN hv hd hcd) (plainO_ok rfl _ _ _) hl) hg hs hw h1).imp fun D σ H h => ?_
  obtain ⟨w, ρ, o, ρ', M', hH, k, L, e, q⟩ := h
  simp only [fsPop0] at e
  split at e
  · rename_i xs es
    split at e
    · rename_i y ey
      obtain ⟨e2, rfl, rfl⟩ := nxt_ok e
      obtain ⟨a, vs, h1, h2, rs, oo⟩ := L.ol i xs es
      refine ⟨.ref a, h1, .inl ⟨rfl, vs, SqL.of (by rw [← hH]; exact h2)⟩, ?_⟩
      obtain ⟨yv, hy, ry⟩ := rs.get ey
      obtain ⟨k4, l4, s4, hne⟩ := writeS k (.lst vs.dropLast) oo
      refine ⟨a, vs, yv, rfl, rfl, by rw [← hH]; exact h2, by rw [← rs.length]; exact hy, ?_⟩
      rw [← hH]
      exact ⟨{ w with H := upd w.H a (.lst vs.dropLast) }, ρ.set i (some (.ol xs.dropLast)), y, ρ', rfl, k4, L.rewrite (.inl ⟨xs, es⟩) h1 s4 rfl hne (.inl ⟨_, _, rfl, upd_same, (rs.stay s4).dropLast⟩) oo, ry.stay s4, e2, fun σ' L' _ => q _ σ' l4 k4 rfl L'⟩
    · cases e
  · cases e
/-- name += e, name -= e: ints -/
def fsAug (i : Nat) (op : BOp) (f : EV) : EVS := fun ρ M => (match ρ[i]? with
    | some (some (.v (.int a))) => (f ρ M).bind fun y M1 => (match op, y with
      | .add, .int b => nxt (setV ρ i (.int (a + b))) M1
      | .sub, .int b => nxt (setV ρ i (.int (a - b))) M1
      | _, _ => .stuck)
    | _ => .stuck)
theorem st_augA {i : Nat} {x : Str} {f : EV} {e : Expr} {p pos : Pos} (hnd : X.N.Nodup) (hN : X.N[i]? = some x) (hx : Loc X.env.scope x) (hf : X.fn x = true ∨ X.env.scope.names.lookup x = some .local) (he : Snd Γ X f e) :
    PS X (.AugAssign (.Name x p) .Add e pos) (RS Γ (fsAug i .add f)) := (ps_aug hnd hN hx he.pe ip_add hf).imp fun D σ H h => by
  obtain ⟨w, ρ, o, ρ', M', hH, k, L, e, q⟩ := h
  simp only [fsAug] at e
  split at e
  · rename_i a ea
    obtain ⟨y, M1, e1, e2⟩ := bind_ok e
    obtain ⟨u, h1, r1⟩ := L.v i (.int a) ea
    cases r1
    refine ⟨.int a, h1, w, ρ, y, M1, hH, k, L, e1, fun w1 t l1 k1 em r1 n1 => ?_⟩
    cases y with
    | int b =>
      obtain ⟨e2', rfl, rfl⟩ := nxt_ok e2
      obtain ⟨hi, rfl⟩ := setV_ok e2'
      cases (show Rep Γ w1 (.int b) t from r1)
      exact ⟨a, b, rfl, rfl, q w1 _ l1.s k1 em ((L.le l1 k).setv hi (.int _))⟩
    | _ => cases e2
  · cases e
theorem st_augS {i : Nat} {x : Str} {f : EV} {e : Expr} {p pos : Pos} (hnd : X.N.Nodup) (hN : X.N[i]? = some x) (hx : Loc X.env.scope x) (hf : X.fn x = true ∨ X.env.scope.names.lookup x = some .local) (he : Snd Γ X f e) :
    PS X (.AugAssign (.Name x p) .Sub e pos) (RS Γ (fsAug i .sub f)) := (ps_aug hnd hN hx he.pe ip_sub hf).imp fun D σ H h => by
  obtain ⟨w, ρ, o, ρ', M', hH, k, L, e, q⟩ := h
  simp only [fsAug] at e
  split at e
  · rename_i a ea
    obtain ⟨y, M1, e1, e2⟩ := bind_ok e
    obtain ⟨u, h1, r1⟩ := L.v i (.int a) ea
    cases r1
    refine ⟨.int a, h1, w, ρ, y, M1, hH, k, L, e1, fun w1 t l1 k1 em r1 n1 => ?_⟩
    cases y with
    | int b =>
      obtain ⟨e2', rfl, rfl⟩ := nxt_ok e2
      obtain ⟨hi, rfl⟩ := setV_ok e2'
      cases (show Rep Γ w1 (.int b) t from r1)
      exact ⟨a, b, rfl, rfl, q w1 _ l1.s k1 em ((L.le l1 k).setv hi (.int _))⟩
    | _ => cases e2
  · cases e
def fsExt (i : Nat) (f : EV) : EVS := fun ρ M => (f ρ M).bind fun x M1 => match ρ[i]?, x with
    | some (some (.ol xs)), .lst .nw ys => if xs.length + ys.length ≤ SZ then .ok (.nx, ρ.set i (some (.ol (xs ++ ys)))) M1 else .stuck
    | _, _ => .stuck
theorem st_ext (g : Gd Γ X) {i : Nat} {x : Str} {f : EV} {e : Expr} {p apos cpos pos : Pos} (hN : X.N[i]? = some x) (hv : Vis X.env.scope x) (hd : (x == ("__debug__" : Str)) = false) (hcd : (x == ("__classdict__" : Str)) = false) (he : Snd Γ X f e) (ns : NoStar e) (hl : (apos.endLine == cpos.line) = true) :
    PS X (.Expr (.Call (.Attribute (.Name x p) "extend" apos) [e] [] cpos) pos) (RS Γ (fsExt i f)) := by
  have hns : ∀ y ∈ [e], NoStar y := fun y hy => by rw [List.mem_singleton.mp hy]; exact ns
  have hfew : ((backTo cpos (starEach [e] X.env)).all (fun x => !x.1) && (backToKw cpos (keywordEach [] X.env)).all (fun x => x.1.isSome)
      && decide (([e] : List Expr).length + ([] : List Keyword).length + (if ([] : List Keyword).isEmpty then 0 else 1) < 30)) = true := by
    rw [star_all hns]; rfl
  refine (ps_expr (pe_bm PySem.F.plainAttrs_list PySem.F.slot_list_extend PySem.F.type_list_extend mt_extend (pe_var hN hv hd hcd) (pa_cons he.pe pa_nil (ns _ _)) (plainO_ok rfl _ _ _) hfew hl (ns _ _) rfl) rfl).imp fun D σ H h => ?_
  obtain ⟨w, ρ, o, ρ', M', hH, k, L, e, q⟩ := h
  obtain ⟨y, M1, e1, e2⟩ := bind_ok e
  split at e2
  · rename_i xs ys es
    obtain ⟨hz, e5⟩ := ite_ok e2
    cases e5
    obtain ⟨a, vs, h1, h2, rs, oo⟩ := L.ol i xs es
    refine ⟨.ref a, h1, .inl ⟨rfl, vs, SqL.of (by rw [← hH]; exact h2)⟩, ?_⟩
    refine ⟨w, ρ, .lst .nw ys, _, hH, k, L, e1, fun w1 u l1 k1 em r1 n1 => ?_⟩
    obtain ⟨b, us, rfl, hb, rb, nF, nO, nal⟩ := r1
    have L3 := L.le l1 k
    obtain ⟨a', vs', g1, g2, g3, g4⟩ := L3.ol i xs es
    rw [h1] at g1
    cases g1
    obtain ⟨k4, l4, s4, hne⟩ := writeS k1 (.lst (vs' ++ us)) g4
    refine ⟨a, b, vs', us, rfl, rfl, g2, hb, by rw [← g3.length, ← rb.length, ← SZ_eq]; exact hz, ?_⟩
    exact q { w1 with H := upd w1.H a (.lst (vs' ++ us)) } σ (l1.s.trans l4) k4 em (L3.rewrite (.inl ⟨xs, es⟩) h1 s4 rfl hne (.inl ⟨_, _, rfl, upd_same, (g3.stay s4).append (rb.stay s4)⟩) g4)
  · cases e2

def fsPar (i j : Nat) (fa fb : EV) : EVS := fun ρ M => ((fa ρ M).bind fun x M1 => ofO x.frz M1).bind fun x M1 => ((fb ρ M1).bind fun y M2 => ofO y.frz M2).bind fun y M2 => nxt ((setV ρ i x).bind fun ρ1 => setV ρ1 j y) M2
theorem st_par (g : Gd Γ X) {i j : Nat} {x y : Str} {fa fb : EV} {a b : Expr} {px py pt pt2 pos : Pos} {kt k2 : Nat} (hi : X.N[i]? = some x) (hj : X.N[j]? = some y) (hij : i ≠ j) (hx : X.env.scope.names.lookup x = some .local) (hy : X.env.scope.names.lookup y = some .local) (ha : Snd Γ X fa a) (hb : Snd Γ X fb b) (na : NoStar a) (nb : NoStar b)
    (hw : swappedStores [.Tuple [.Name x px, .Name y py] kt pt] (.Tuple [a, b] k2 pt2) X.env = pure (some [x, y])) :
    PS X (.Assign [.Tuple [.Name x px, .Name y py] kt pt] (.Tuple [a, b] k2 pt2) pos) (RS Γ (fsPar i j fa fb)) := (ps_par g.calm g.nd hi hj hij hx hy (argK_cons ha (argK_cons hb argK_nil nb) na).pa hw rfl).imp fun D σ H h => by
  obtain ⟨w, ρ, o, ρ', M', hH, k, L, e, q⟩ := h
  obtain ⟨u, M1, e1, e2⟩ := bind_ok e
  obtain ⟨u', M2, e3, e4⟩ := bind_ok e1
  obtain ⟨e4', rfl⟩ := ofO_ok e4
  obtain ⟨v, M3, e5, e6⟩ := bind_ok e2
  obtain ⟨v', M4, e7, e8⟩ := bind_ok e5
  obtain ⟨e8', rfl⟩ := ofO_ok e8
  obtain ⟨e9, rfl, hM⟩ := nxt_ok e6
  cases h1 : setV ρ i u with
  | none => rw [h1] at e9; cases e9
  | some ρ1 =>
    rw [h1] at e9
    obtain ⟨g1, rfl⟩ := setV_ok h1
    obtain ⟨g2, rfl⟩ := setV_ok (show setV _ j v = some ρ' from e9)
    refine ⟨w, ρ, [u, v], M', hH, k, L, ?_, fun w1 us l1 k1 em r1 => ?_⟩
    · rw [hM]
      show (fa ρ w.M).bind _ = _
      rw [e3]
      show (ofO u'.frz _).bind _ = _
      rw [e4']
      show ((fb ρ _).bind _).bind _ = _
      rw [e7]
      show ((ofO v'.frz _).bind _).bind _ = _
      rw [e8']
      rfl
    · cases r1 with
      | cons r t =>
        cases t with
        | cons r2 t2 =>
          cases t2
          exact ⟨_, _, rfl, q w1 _ l1.s k1 em (((L.le l1 k).setv g1 r).setv g2 r2)⟩

/-! ### o[k] = value -/
theorem repK_put {k : K1} {m : MV} {u : V} (ru : Rep Γ w m u) : ∀ {kvs : List (KY × MV)} {ps : List (Key × V)}, RepK Γ w kvs ps → RepK Γ w (dput kvs (.one k) m) (putK ps k u) := fun {kvs ps} r => by
  have ha : (kvs.any fun p => decide (p.1 = KY.one k)) = ps.any fun p => decide (p.1 = k) := by
    induction ps generalizing kvs with
    | nil => cases r; rfl
    | cons p ps ih =>
      cases r with
      | @cons j x v xs vs rx rt =>
        rw [List.any_cons, List.any_cons, ih rt]
        congr 1
        exact decide_eq_decide.mpr ⟨fun h => KY.one.inj h, fun h => congrArg KY.one h⟩
  have hm : RepK Γ w (kvs.map fun p => if p.1 = KY.one k then (p.1, m) else p) (ps.map fun kv => if kv.1 = k then (kv.1, u) else kv) := by
    clear ha
    induction ps generalizing kvs with
    | nil => cases r; exact .nil
    | cons p ps ih =>
      cases r with
      | @cons j x v xs vs rx rt =>
        rw [List.map_cons, List.map_cons]
        by_cases c : j = k
        · subst c
          rw [if_pos rfl, if_pos rfl]
          exact .cons ru (ih rt)
        · rw [if_neg (fun z => c (KY.one.inj z)), if_neg c]
          exact .cons rx (ih rt)
  have happ : RepK Γ w (kvs ++ [(.one k, m)]) (ps ++ [(k, u)]) := by
    clear ha hm
    induction ps generalizing kvs with
    | nil => cases r; exact .cons ru .nil
    | cons p ps ih => cases r with | cons rx rt => exact .cons rx (ih rt)
  unfold dput putK
  rw [ha]
  split
  · exact hm
  · exact happ
theorem repT_put {k : List Int} {m : MV} {u : V} (ru : Rep Γ w m u) : ∀ {kvs : List (KY × MV)} {ps : List (List Key × V)}, RepT Γ w kvs ps → RepT Γ w (dput kvs (.tup k) m) (putK ps (k.map Sum.inl) u) := fun {kvs ps} r => by
  have ha : (kvs.any fun p => decide (p.1 = KY.tup k)) = ps.any fun p => decide (p.1 = k.map Sum.inl) := by
    induction ps generalizing kvs with
    | nil => cases r; rfl
    | cons p ps ih =>
      cases r with
      | @cons j x v xs vs rx rt =>
        rw [List.any_cons, List.any_cons, ih rt]
        congr 1
        exact decide_eq_decide.mpr ⟨fun h => congrArg (List.map Sum.inl) (KY.tup.inj h), fun h => congrArg KY.tup (inl_inj h)⟩
  have hm : RepT Γ w (kvs.map fun p => if p.1 = KY.tup k then (p.1, m) else p) (ps.map fun kv => if kv.1 = k.map Sum.inl then (kv.1, u) else kv) := by
    clear ha
    induction ps generalizing kvs with
    | nil => cases r; exact .nil
    | cons p ps ih =>
      cases r with
      | @cons j x v xs vs rx rt =>
        rw [List.map_cons, List.map_cons]
        by_cases c : j = k
        · subst c
          rw [if_pos rfl, if_pos rfl]
          exact .cons ru (ih rt)
        · rw [if_neg (fun z => c (KY.tup.inj z)), if_neg (fun z => c (inl_inj z))]
          exact .cons rx (ih rt)
  have happ : RepT Γ w (kvs ++ [(.tup k, m)]) (ps ++ [(k.map Sum.inl, u)]) := by
    clear ha hm
    induction ps generalizing kvs with
    | nil => cases r; exact .cons ru .nil
    | cons p ps ih => cases r with | cons rx rt => exact .cons rx (ih rt)
  unfold dput putK
  rw [ha]
  split
  · exact hm
  · exact happ
theorem RepT.length : ∀ {kvs : List (KY × MV)} {ps : List (List Key × V)}, RepT Γ w kvs ps → kvs.length = ps.length
  | _, _, .nil => rfl
  | _, _, .cons _ t => by rw [List.length_cons, List.length_cons, RepT.length t]
theorem DPut.rep {t : Bool} {x : MV} {v : V} {ky : KY} {kvs : List (KY × MV)} {a : Addr} {m : MV} {u : V} (r : ReadV Γ w x v) (h : keyT t x = some ky) (d : RepD Γ w t kvs a) (hz : kvs.length < SZ) :
    ∃ ho : HO, DPut w.H a v u (upd w.H a ho) ∧ ∀ w', Stay w w' → w'.H a = some ho → Rep Γ w' m u → RepD Γ w' t (dput kvs ky m) a := by
  unfold RepD at d
  rcases key_read r h with ⟨rfl, j, rfl, rfl⟩ | ⟨rfl, is, b, rfl, rfl, hb, _⟩
  · rw [if_neg Bool.false_ne_true] at d
    obtain ⟨ps, h1, r1⟩ := d
    refine ⟨_, DPut.k h1 (by rw [← r1.length, ← SZ_eq]; exact hz), fun w' st hw rm => ?_⟩
    unfold RepD
    rw [if_neg Bool.false_ne_true]
    exact ⟨_, hw, repK_put rm (r1.stay st)⟩
  · rw [if_pos rfl] at d
    obtain ⟨ps, h1, r1⟩ := d
    refine ⟨_, DPut.t h1 hb (by rw [← r1.length, ← SZ_eq]; exact hz), fun w' st hw rm => ?_⟩
    unfold RepD
    rw [if_pos rfl]
    exact ⟨_, hw, repT_put rm (r1.stay st)⟩
theorem PSet_or {t t' : TSet} (h : PSet X t) (h' : PSet X t') : PSet X (fun o i v H Q => t o i v H Q ∨ t' o i v H Q) := fun pins s σ H o i v ov iv u Q I ro ri rv q =>
  q.elim (h pins s σ H o i v ov iv u Q I ro ri rv) (h' pins s σ H o i v ov iv u Q I ro ri rv)
theorem assign_sub {o i : Expr} {pos : Pos} {env : PySem.Env} (h : plainIx i = true) (v : Value) : assign (.Subscript o i pos) env v = (do
      let ov ← holding [v] (eval o env)
      let iv ← holding [v, ov] (eval i env)
      standAt pos
      holding [v, ov, iv] (setItem ov iv v)
      release [v, ov, iv] []) := by
  cases i <;> first | rfl | cases h
def fsSetR (fo fk f : EV) : EVS := fun ρ M => ((f ρ M).bind fun x M1 => ofO x.frz M1).bind fun u M1 => (fo ρ M1).bind fun x M2 => (fk ρ M2).bind fun z M3 => match x with
    | .ref n => (match M3.ob n with
      | some (.lst xs) => (match z with
        | .int j => match atK xs j with
          | some p => .ok (.nx, ρ) (M3.put n (.lst (xs.set p u)))
          | none => .stuck
        | _ => .stuck)
      | some (.dct t kvs) => (match keyT t z with
        | some ky => if kvs.length < SZ then .ok (.nx, ρ) (M3.put n (.dct t (dput kvs ky u))) else .stuck
        | none => .stuck)
      | _ => .stuck)
    | _ => .stuck
theorem st_setR (g : Gd Γ X) {fo fk f : EV} {o k e : Expr} {p pos : Pos} (hpi : plainIx k = true) (ho : Snd Γ X fo o) (hk : Snd Γ X fk k) (he : Snd Γ X f e) (hs : swapsWith e (some (.Subscript o k p)) pos.line X.env = pure false) (hw : swappedStores [.Subscript o k p] e X.env = pure none) :
    PS X (.Assign [.Subscript o k p] e pos) (RS Γ (fsSetR fo fk f)) := by
  refine (ps_asg he.pe (pg_sub ho.pe hk.pe (PSet_or set_list (set_dict g.u1)) (assign_sub hpi)) hs hw rfl).imp fun D σ H h => ?_
  obtain ⟨w, ρ, o, ρ', M', hH, k0, L, e, q⟩ := h
  obtain ⟨u, M1, e1, e2⟩ := bind_ok e
  obtain ⟨x, M2, e3, e4⟩ := bind_ok e1
  obtain ⟨e4', rfl⟩ := ofO_ok e4
  obtain ⟨x', M3, e5, e6⟩ := bind_ok e2
  obtain ⟨z, M4, e7, e8⟩ := bind_ok e6
  refine ⟨w, ρ, x, _, hH, k0, L, e3, fun w1 uv l1 k1 em r1 n1 => ?_⟩
  obtain ⟨w2, h2, m2, o2, k2, l2, s2, r2⟩ := r1.keep k1 l1 n1 e4'
  rw [← h2]
  have L2' := L.le l2 k0
  refine ⟨w2, ρ, x', M3, rfl, k2, L2', by rw [m2, em]; exact e5, fun w3 ov l3 k3 em3 r3 n3 => ?_⟩
  have L3 := L2'.le l3 k2
  refine ⟨w3, ρ, z, M4, rfl, k3, L3, by rw [em3]; exact e7, fun w4 iv l4 k4 em4 r4 n4 => ?_⟩
  have L4 := L3.le l4 k3
  have r2' := (r2.stay (l3.stay k2)).stay (l4.stay k3)
  have r3' := r3.le l4 k3
  subst em4
  split at e8
  · rename_i n
    have eo := ref_rep r3'
    subst eo
    split at e8
    · rename_i xs eob
      obtain ⟨ws, g1, g2⟩ := k4.obj n _ eob
      split at e8
      · rename_i j
        have ez := int_rep r4
        subst ez
        split at e8
        · rename_i p' ep
          cases e8
          obtain ⟨w5, h5, m5, k5, l5⟩ := writeO k4 eob (o' := .lst (xs.set p' u)) (ho := .lst (ws.set p' uv)) fun w' st hw => ⟨_, hw, (g2.stay st).set (r2'.stay st) p'⟩
          refine .inl ⟨w4.μ n, ws, j, p', rfl, rfl, g1, by rw [← atK_ix g2.length]; exact ep, ?_⟩
          rw [← h5]
          exact q w5 σ (((l2.trans l3).trans (l4.trans l5)).s) k5 m5 (L4.le l5 k4)
        · cases e8
      · cases e8
    · rename_i t kvs eob
      split at e8
      · rename_i ky ek
        obtain ⟨hz, e9⟩ := ite_ok e8
        cases e9
        have rz := r4.read k4
        rw [← keyT_dr _ w4.M] at ek
        obtain ⟨hob, d1, d2⟩ := DPut.rep (m := u) (u := uv) rz ek (show RepD Γ w4 t kvs (w4.μ n) from k4.obj n _ eob) hz
        obtain ⟨w5, h5, m5, k5, l5⟩ := writeO k4 eob (o' := .dct t (dput kvs ky u)) (ho := hob) fun w' st hw => d2 w' st hw (r2'.stay st)
        refine .inr ⟨w4.μ n, _, rfl, d1, ?_⟩
        rw [← h5]
        exact q w5 σ (((l2.trans l3).trans (l4.trans l5)).s) k5 m5 (L4.le l5 k4)
      · cases e8
    · cases e8
  · cases e8
def fsSetI (i : Nat) (fk f : EV) : EVS := fun ρ M => ((f ρ M).bind fun x M1 => ofO x.frz M1).bind fun u M1 => (fk ρ M1).bind fun x M2 => match ρ[i]? with
    | some (some (.ol xs)) => (match x with
      | .int j => match atK xs j with
        | some p => .ok (.nx, ρ.set i (some (.ol (xs.set p u)))) M2
        | none => .stuck
      | _ => .stuck)
    | some (some (.od t kvs)) => (match keyT t x with
      | some ky => if kvs.length < SZ then .ok (.nx, ρ.set i (some (.od t (dput kvs ky u)))) M2 else .stuck
      | none => .stuck)
    | _ => .stuck
theorem st_setI (g : Gd Γ X) {i : Nat} {x : Str} {fk f : EV} {k e : Expr} {px p pos : Pos} (hN : X.N[i]? = some x) (hv : Vis X.env.scope x) (hd : (x == ("__debug__" : Str)) = false) (hcd : (x == ("__classdict__" : Str)) = false)
    (hpi : plainIx k = true) (hk : Snd Γ X fk k) (he : Snd Γ X f e) (hs : swapsWith e (some (.Subscript (.Name x px) k p)) pos.line X.env = pure false) (hw : swappedStores [.Subscript (.Name x px) k p] e X.env = pure none) :
    PS X (.Assign [.Subscript (.Name x px) k p] e pos) (RS Γ (fsSetI i fk f)) := by
  refine (ps_asg he.pe (pg_sub (pe_var hN hv hd hcd) hk.pe (PSet_or set_list (set_dict g.u1)) (assign_sub hpi)) hs hw rfl).imp fun D σ H h => ?_
  obtain ⟨w, ρ, o, ρ', M', hH, k0, L, e, q⟩ := h
  obtain ⟨u, M1, e1, e2⟩ := bind_ok e
  obtain ⟨x, M2, e3, e4⟩ := bind_ok e1
  obtain ⟨e4', rfl⟩ := ofO_ok e4
  obtain ⟨z, M4, e7, e8⟩ := bind_ok e2
  refine ⟨w, ρ, x, _, hH, k0, L, e3, fun w1 uv l1 k1 em r1 n1 => ?_⟩
  obtain ⟨w2, h2, m2, o2, k2, l2, s2, r2⟩ := r1.keep k1 l1 n1 e4'
  rw [← h2]
  have L2' := L.le l2 k0
  have hslot : ∃ a, σ[i]? = some (some (.ref a)) ∧ Own ρ i := by
    split at e8
    · rename_i xs es
      obtain ⟨a, _, h1, _⟩ := L.ol i xs es
      exact ⟨a, h1, .inl ⟨xs, es⟩⟩
    · rename_i t kvs es
      obtain ⟨a, h1, _⟩ := L.od i t kvs es
      exact ⟨a, h1, .inr ⟨t, kvs, es⟩⟩
    · cases e8
  obtain ⟨a, ha, hown⟩ := hslot
  refine ⟨.ref a, ha, ?_⟩
  refine ⟨w2, ρ, z, M4, rfl, k2, L2', by rw [m2, em]; exact e7, fun w4 iv l4 k4 em4 r4 n4 => ?_⟩
  have L4 := L2'.le l4 k2
  have r2' := r2.stay (l4.stay k2)
  split at e8
  · rename_i xs es
    obtain ⟨a', ws, g0, g1, g2, g3⟩ := L4.ol i xs es
    rw [ha] at g0
    cases g0
    split at e8
    · rename_i j
      have ez := int_rep r4
      subst ez
      split at e8
      · rename_i p' ep
        cases e8
        obtain ⟨k5, l5, s5, hne⟩ := writeS k4 (.lst (ws.set p' uv)) g3
        refine .inl ⟨a, ws, j, p', rfl, rfl, g1, by rw [← atK_ix g2.length]; exact ep, ?_⟩
        exact q { w4 with H := upd w4.H a (.lst (ws.set p' uv)) } σ ((l2.trans l4).s.trans l5) k5 em4 (L4.rewrite hown ha s5 rfl hne (.inl ⟨_, _, rfl, upd_same, (g2.stay s5).set (r2'.stay s5) p'⟩) g3)
      · cases e8
    · cases e8
  · rename_i t kvs es
    obtain ⟨a', g0, g1, g3⟩ := L4.od i t kvs es
    rw [ha] at g0
    cases g0
    split at e8
    · rename_i ky ek
      obtain ⟨hz, e9⟩ := ite_ok e8
      cases e9
      have rz := r4.read k4
      rw [← keyT_dr _ w4.M] at ek
      obtain ⟨hob, d1, d2⟩ := DPut.rep (m := u) (u := uv) rz ek g1 hz
      obtain ⟨k5, l5, s5, hne⟩ := writeS k4 hob g3
      refine .inr ⟨a, _, rfl, d1, ?_⟩
      exact q { w4 with H := upd w4.H a hob } σ ((l2.trans l4).s.trans l5) k5 em4 (L4.rewrite hown ha s5 rfl hne (.inr ⟨t, _, rfl, d2 _ s5 upd_same (r2'.stay s5)⟩) g3)
    · cases e8
  · cases e8

/-! ### o.f = value -/
theorem repF_put {f : Nat} {m : MV} {u : V} (ru : Rep Γ w m u) : ∀ {fs : List (Nat × MV)} {gs : List (Str × V)}, RepF Γ w fs gs → RepF Γ w (Q.putF f m fs) (L2.putF (Γ.nm f) u gs)
  | _, _, .nil => .cons ru .nil
  | _, _, .cons (f := h) (x := x) (v := v) (xs := xs) (vs := vs) r t => by
    unfold Q.putF L2.putF
    by_cases c : h = f
    · subst c
      rw [if_pos rfl, if_pos rfl]
      exact .cons ru t
    · rw [if_neg c, if_neg (fun z => c (Γ.ni _ _ z))]
      exact .cons r (repF_put ru t)
theorem RepF.length : ∀ {fs : List (Nat × MV)} {gs : List (Str × V)}, RepF Γ w fs gs → fs.length = gs.length
  | _, _, .nil => rfl
  | _, _, .cons _ t => by rw [List.length_cons, List.length_cons, RepF.length t]
def fsSetF (T : Tab) (fo : EV) (f : Nat) (fe : EV) : EVS := fun ρ M => ((fe ρ M).bind fun x M1 => ofO x.frz M1).bind fun u M1 => (fo ρ M1).bind fun x M2 => match insOf M2 x with
    | some (n, C, fs) => if fs.length < 900 ∧ T.cf C f = true then .ok (.nx, ρ) (M2.put n (.ins C (Q.putF f u fs))) else .stuck
    | none => .stuck
theorem st_setF (g : Gd Γ X) (tg : Q.TG Γ T) {fo fe : EV} {f : Nat} {x : Str} {o e : Expr} {p pos : Pos} (hx : x = Γ.nm f) (ho : Snd Γ X fo o) (he : Snd Γ X fe e) (hs : swapsWith e (some (.Attribute o x p)) pos.line X.env = pure false) :
    PS X (.Assign [.Attribute o x p] e pos) (RS Γ (fsSetF T fo f fe)) := by
  refine (ps_fld ho.pe he.pe hs).imp fun D σ H h => ?_
  obtain ⟨w, ρ, o, ρ', M', hH, k0, L, e, q⟩ := h
  obtain ⟨u, M1, e1, e2⟩ := bind_ok e
  obtain ⟨x0, M2, e3, e4⟩ := bind_ok e1
  obtain ⟨e4', rfl⟩ := ofO_ok e4
  obtain ⟨x', M3, e5, e6⟩ := bind_ok e2
  refine ⟨w, ρ, x0, _, hH, k0, L, e3, fun w1 uv l1 k1 em r1 n1 => ?_⟩
  obtain ⟨w2, h2, m2, o2, k2, l2, s2, r2⟩ := r1.keep k1 l1 n1 e4'
  rw [← h2]
  have L2' := L.le l2 k0
  refine ⟨w2, ρ, x', M3, rfl, k2, L2', by rw [m2, em]; exact e5, fun w3 ov l3 k3 em3 r3 n3 => ?_⟩
  subst em3
  split at e6
  · rename_i n C fs ei
    obtain ⟨hc, e7⟩ := ite_ok e6
    cases e7
    obtain ⟨rfl, rfl, eo, dx, gs, hh, rf⟩ := insOf_read k3 r3 ei
    obtain ⟨c1, c2⟩ := tg.cf C f hc.2
    rw [← g.K] at c1 c2
    subst hx
    obtain ⟨w4, h4, m4, k4, l4⟩ := writeO k3 eo (o' := .ins C (Q.putF f u fs)) (ho := .ins (Γ.cl C) dx (L2.putF (Γ.nm f) uv gs)) fun w' st hw => ⟨dx, _, hw, repF_put ((r2.stay (l3.stay k2)).stay st) (rf.stay st)⟩
    refine ⟨_, _, dx, gs, rfl, hh, c1, c2, by rw [← rf.length]; omega, ?_⟩
    rw [← h4]
    exact q w4 σ ((l2.trans (l3.trans l4)).s) k4 m4 ((L2'.le l3 k2).le l4 k3)
  · cases e6

/-! ### loops -/
def fsWhl (n : Nat) (fc : EV) (b : EVS) : EVS := fun ρ M => whlL (fun ρ M => vt fc ρ M) b n ρ M
theorem st_whl (g : Gd Γ X) {n : Nat} {fc : EV} {c : Expr} {b : EVS} {body : List Stmt} {pos : Pos} (hc : Snd Γ X fc c) (hb : PSs X body (RS Γ b)) : PS X (.While c body [] pos) (RS Γ (fsWhl n fc b)) := by
  refine (ps_while (by rw [g.xe]; exact PassesOwn.never) hc.pt hb).imp fun D σ H h => ?_
  obtain ⟨w, ρ, o, ρ', M', hH, k0, L, e, q⟩ := h
  refine ⟨fun m σ H => ∃ w2 ρ2, w2.H = H ∧ WOK Γ w2 ∧ LOK Γ w2 ρ2 σ ∧ LeS w w2 ∧ whlL (fun ρ M => vt fc ρ M) b m ρ2 w2.M = .ok (o, ρ') M', ⟨n, w, ρ, hH, k0, L, LeS.refl w, e⟩, ?_⟩
  rintro m σ H ⟨w2, ρ2, rfl, k2, Lb, l2, el⟩
  cases m with
  | zero => cases el
  | succ m =>
    obtain ⟨t, M1, e1, e2⟩ := bind_ok el
    refine ⟨w2, ρ2, t, M1, rfl, k2, Lb, e1, fun w3 l3 k3 em => ?_⟩
    subst em
    have L3 := Lb.le l3 k2
    have l23 : LeS w w3 := l2.trans l3.s
    cases t with
    | false =>
      rw [if_neg Bool.false_ne_true] at e2
      cases e2
      exact ite_f (q w3 σ l23 k3 rfl L3)
    | true =>
      rw [if_pos rfl] at e2
      obtain ⟨⟨o1, ρ1⟩, M2, e3, e4⟩ := bind_ok e2
      refine ite_t ⟨fun σ' H' => ∃ w4 ρ4, w4.H = H' ∧ WOK Γ w4 ∧ LOK Γ w4 ρ4 σ' ∧ LeS w w4 ∧ whlL (fun ρ M => vt fc ρ M) b m ρ4 w4.M = .ok (o, ρ') M', fun σ' H' h => ⟨m, Nat.lt_succ_self m, h⟩, w3, ρ2, o1, ρ1, M2, rfl, k3, L3, e3, ?_⟩
      cases o1 with
      | nx => exact fun w4 σ' l4 k4 em4 L4 => ⟨w4, ρ1, rfl, k4, L4, l23.trans l4, by rw [em4]; exact e4⟩
      | ct => exact fun w4 σ' l4 k4 em4 L4 => ⟨w4, ρ1, rfl, k4, L4, l23.trans l4, by rw [em4]; exact e4⟩
      | brk => cases e4; exact fun w4 σ' l4 k4 em4 L4 => q w4 σ' (l23.trans l4) k4 em4 L4
      | ret v => cases e4; exact fun w4 u l4 k4 em4 r4 => q w4 u (l23.trans l4) k4 em4 r4
def fsFor (g : G) (fi : EVi) (b : EVS) : EVS := fun ρ M => (fi ρ M).bind fun xs M2 => forL (fun x ρ M => (ofO (bindG g x ρ) M).bind fun ρ1 M1 => b ρ1 M1) xs ρ M2
theorem st_for (gd : Gd Γ X) {g : G} {fi : EVi} {b : EVS} {tg it : Expr} {body : List Stmt} {pos : Pos} (hi : PI X tg it (RI Γ true fi)) (hg : PG X tg (RG Γ g)) (hb : PSs X body (RS Γ b)) (hs : ∀ x, foldedSetIterable it X.env x = pure x) :
    PS X (.For tg it body [] pos) (RS Γ (fsFor g fi b)) := by
  refine (ps_for (by rw [gd.xe]; exact PassesOwn.never) gd.calm hi hg hb hs).imp fun D σ H h => ?_
  obtain ⟨w, ρ, o, ρ', M', hH, k0, L, e, q⟩ := h
  obtain ⟨xs, M1, e1, e2⟩ := bind_ok e
  refine ⟨w, ρ, xs, M1, hH, k0, L, e1, fun w1 J l1 k1 em itr => ?_⟩
  refine ⟨fun i m σ H => ∃ w2 ρ2, w2.H = H ∧ WOK Γ w2 ∧ LOK Γ w2 ρ2 σ ∧ LeS w1 w2 ∧ i ≤ xs.length ∧ m = xs.length - i ∧ forL (fun x ρ M => (ofO (bindG g x ρ) M).bind fun ρ1 M1 => b ρ1 M1) (xs.drop i) ρ2 w2.M = .ok (o, ρ') M',
    ⟨xs.length, w1, ρ, rfl, k1, L.le l1 k0, LeS.refl w1, Nat.zero_le _, rfl, by rw [em]; exact e2⟩, ?_⟩
  rintro i m σ H ⟨w2, ρ2, rfl, k2, Lb, l2, hi, hm, el⟩
  obtain ⟨it1, it2⟩ := itr w2 k2 (show After true w1 w2 from l2)
  by_cases c : i = xs.length
  · subst c
    rw [List.drop_length] at el
    cases el
    exact .inl ⟨it2 _ (Nat.le_refl _), q w2 σ (l1.s.trans l2) k2 rfl Lb⟩
  · have hi' : i < xs.length := by omega
    have hx : xs[i]? = some xs[i] := List.getElem?_eq_getElem hi'
    obtain ⟨go, yld⟩ := it1 i _ hx
    rw [drop_cons hx] at el
    obtain ⟨⟨o1, ρ1⟩, M2, e3, e4⟩ := bind_ok el
    obtain ⟨ρb, M3, e5, e6⟩ := bind_ok e3
    obtain ⟨e5', rfl⟩ := ofO_ok e5
    refine .inr ⟨go, fun σ' H' => ∃ w4 ρ4, w4.H = H' ∧ WOK Γ w4 ∧ LOK Γ w4 ρ4 σ' ∧ LeS w1 w4 ∧ forL (fun x ρ M => (ofO (bindG g x ρ) M).bind fun ρ1 M1 => b ρ1 M1) (xs.drop (i + 1)) ρ4 w4.M = .ok (o, ρ') M',
      fun σ' H' ⟨w4, ρ4, h4, k4, L4, l4, e4'⟩ => ⟨xs.length - (i + 1), by omega, w4, ρ4, h4, k4, L4, l4, hi', rfl, e4'⟩, fun u H' hy => ?_⟩
    obtain ⟨w3, rfl, k3, l3, m3, rx⟩ := yld u H' hy
    have l13 : LeS w1 w3 := l2.trans l3.s
    refine ⟨w3, ρ2, _, ρb, rfl, k3, Lb.le l3 k2, rx, e5', fun σ2 Lc _ => ?_⟩
    refine ⟨w3, ρb, o1, ρ1, M2, rfl, k3, Lc, by rw [m3]; exact e6, ?_⟩
    cases o1 with
    | nx => exact fun w4 σ' l4 k4 em4 L4 => ⟨w4, ρ1, rfl, k4, L4, l13.trans l4, by rw [em4]; exact e4⟩
    | ct => exact fun w4 σ' l4 k4 em4 L4 => ⟨w4, ρ1, rfl, k4, L4, l13.trans l4, by rw [em4]; exact e4⟩
    | brk => cases e4; exact fun w4 σ' l4 k4 em4 L4 => q w4 σ' (l1.s.trans (l13.trans l4)) k4 em4 L4
    | ret v => cases e4; exact fun w4 u l4 k4 em4 r4 => q w4 u (l1.s.trans (l13.trans l4)) k4 em4 r4
end
end Q

/-! EvO: the evaluator's equations, the checker. -/
namespace Q
open PySem L2
theorem bind_assoc {α β γ : Type} (r : Res α) (f : α → Store → Res β) (g : β → Store → Res γ) : (r.bind f).bind g = r.bind fun a M => (f a M).bind g := by cases r <;> rfl
section
variable (T : Tab) (cl : Nat → List MV → Store → Res MV)
abbrev ee (e : E) : EV := fun ρ M => evE T cl e ρ M
abbrev eks (es : Es) : EVs := fun ρ M => evFs T cl es ρ M
abbrev ess (es : Es) : EVs := fun ρ M => evEs T cl es ρ M
abbrev eo (e : E) : EVo := fun ρ M => evO T cl e ρ M
theorem q_var (i : Nat) : ee T cl (.var i) = fun ρ M => ofO (getV ρ i) M := by funext ρ M; simp only [evE] <;> rfl
theorem q_con (c : MV) : ee T cl (.con c) = fun _ M => .ok c M := by funext ρ M; simp only [evE] <;> rfl
theorem q_bin (op : BOp) (a b : E) : ee T cl (.bin op a b) = fun ρ M => (ee T cl a ρ M).bind fun x M1 => (ee T cl b ρ M1).bind fun y M2 => ofO (binM op (x.dr M2) (y.dr M2)) M2 := by funext ρ M; simp only [evE] <;> rfl
theorem q_neg (a : E) : ee T cl (.neg a) = fNeg (ee T cl a) := by funext ρ M; simp only [evE, fNeg] <;> rfl
theorem q_nt (a : E) : ee T cl (.nt a) = fNot (ee T cl a) := by funext ρ M; simp only [evE, fNot] <;> rfl
theorem q_cmp (op : COp) (a b : E) : ee T cl (.cmp op a b) = fun ρ M => (ee T cl a ρ M).bind fun x M1 => (ee T cl b ρ M1).bind fun y M2 => ofO ((cmpM op (x.dr M2) (y.dr M2)).map .bl) M2 := by funext ρ M; simp only [evE] <;> rfl
theorem q_chain (o1 o2 : COp) (a b c : E) : ee T cl (.chain o1 o2 a b c) = fChain o1 o2 (ee T cl a) (ee T cl b) (ee T cl c) := by funext ρ M; simp only [evE, fChain] <;> rfl
theorem q_and (a b : E) : ee T cl (.andd a b) = fAnd (ee T cl a) (ee T cl b) := by funext ρ M; simp only [evE, fAnd] <;> rfl
theorem q_or (a b : E) : ee T cl (.orr a b) = fOr (ee T cl a) (ee T cl b) := by funext ρ M; simp only [evE, fOr] <;> rfl
theorem q_ite (c a b : E) : ee T cl (.ite c a b) = fIte (ee T cl c) (ee T cl a) (ee T cl b) := by funext ρ M; simp only [evE, fIte] <;> rfl
theorem q_tup (es : Es) : ee T cl (.tup es) = fTup (eks T cl es) := by funext ρ M; simp only [evE, fTup] <;> rfl
theorem q_lst (es : Es) : ee T cl (.lst es) = fLst (eks T cl es) := by funext ρ M; simp only [evE, fLst] <;> rfl
theorem q_nil : eks T cl .nil = fNil := by funext ρ M; simp only [evFs, fNil] <;> rfl
theorem q_cons (e : E) (es : Es) : eks T cl (.cons e es) = fkCons (ee T cl e) (eks T cl es) := by funext ρ M; simp only [evFs, fkCons] <;> rfl
theorem q_nils : ess T cl .nil = fNil := by funext ρ M; simp only [evEs, fNil] <;> rfl
theorem q_conss (e : E) (es : Es) : ess T cl (.cons e es) = fsCons (ee T cl e) (ess T cl es) := by funext ρ M; simp only [evEs, fsCons] <;> rfl
theorem q_dct0 (t : Bool) : ee T cl (.dct t .nil .nil) = fDct0 t := by funext ρ M; simp only [evE, evFs, fDct0] <;> rfl
theorem q_dct1 (t : Bool) (k v : E) : ee T cl (.dct t (.cons k .nil) (.cons v .nil)) = fDct1 t (ee T cl k) (ee T cl v) := by
  funext ρ M
  simp only [evE, evFs, fDct1, bind_assoc]
  congr 1
theorem q_idx (a i : E) : ee T cl (.idx a i) = fIdx (ee T cl a) (ee T cl i) := by funext ρ M; simp only [evE, fIdx] <;> rfl
theorem q_sl (a lo hi : E) : ee T cl (.sl a lo hi) = fSl (ee T cl a) (eo T cl lo) (eo T cl hi) := by funext ρ M; simp only [evE, fSl] <;> rfl
theorem q_call (f : Nat) (es : Es) : ee T cl (.call f es) = fCall cl f (eks T cl es) := by funext ρ M; simp only [evE, fCall] <;> rfl
theorem q_make (C : Nat) (es : Es) : ee T cl (.make C es) = fMake T cl C (eks T cl es) := by funext ρ M; simp only [evE, fMake] <;> rfl
theorem q_mkk (C np : Nat) (es : Es) (pat : List (Option MV)) (ks : Es) : ee T cl (.mkk C np es pat ks) = fMakeK T cl C np (eks T cl es) pat (eks T cl ks) := by funext ρ M; simp only [evE, fMakeK] <;> rfl
theorem q_callk (f np : Nat) (es : Es) (pat : List (Option MV)) (ks : Es) : ee T cl (.callk f np es pat ks) = fCallK cl f np (eks T cl es) pat (eks T cl ks) := by funext ρ M; simp only [evE, fCallK] <;> rfl
theorem q_meth (o : E) (m : Nat) (es : Es) : ee T cl (.meth o m es) = fMeth T cl (ee T cl o) m (eks T cl es) := by funext ρ M; simp only [evE, fMeth] <;> rfl
theorem q_fld (o : E) (f : Nat) : ee T cl (.fld o f) = fFld T (ee T cl o) f := by funext ρ M; simp only [evE, fFld] <;> rfl
theorem q_bi (b : Bi) (es : Es) : ee T cl (.bi b es) = fBi b (ess T cl es) := by funext ρ M; simp only [evE, fBi] <;> rfl
theorem q_bm (m : Bm) (o : E) (es : Es) : ee T cl (.bm m o es) = fBm m (ee T cl o) (eks T cl es) := by funext ρ M; simp only [evE, fBm] <;> rfl
theorem q_isin (e : E) (t : Ty) : ee T cl (.isin e t) = fIsin T (ee T cl e) t := by funext ρ M; simp only [evE, fIsin] <;> rfl
theorem q_lrg (a b : E) : ee T cl (.lrg a b) = fLrg (ee T cl a) (ee T cl b) := by funext ρ M; simp only [evE, fLrg] <;> rfl
theorem q_stp (a s : E) : ee T cl (.stp a s) = fStp (ee T cl a) (ee T cl s) := by funext ρ M; simp only [evE, fStp] <;> rfl
theorem q_rg1 (t : Bool) (a : E) : ee T cl (.rg1 t a) = fRg1 t (ee T cl a) := by funext ρ M; simp only [evE, fRg1] <;> rfl
theorem q_disp (k : E) (D : Str) (tb : List (Str × Nat)) (es : Es) : ee T cl (.disp k D tb es) = fDisp cl tb (ee T cl k) (eks T cl es) := by funext ρ M; simp only [evE, fDisp] <;> rfl
theorem q_shr (e : E) : ee T cl (.shr e) = fShr (ee T cl e) := by funext ρ M; simp only [evE, fShr] <;> rfl
theorem q_lc (elt : E) (own : List Nat) (g : G) (it cond : E) : ee T cl (.lc elt own g it cond) = fLc own g (fIt false (ee T cl it)) (ee T cl cond) (ee T cl elt) := by
  funext ρ M
  simp only [evE, fLc, fIt, Bool.false_eq_true, if_false, bind_assoc]
  rfl
theorem q_o (e : E) (h : e ≠ .noE) : eo T cl e = foSome (ee T cl e) := by
  funext ρ M
  cases e <;> first | exact absurd rfl h | (simp only [evO, foSome] <;> rfl)
theorem q_o0 : eo T cl .noE = foNone := by funext ρ M; simp only [evO, foNone] <;> rfl

abbrev es_ (s : S) : EVS := fun ρ M => evS T cl s ρ M
abbrev esL (ss : List S) : EVS := fun ρ M => evSs T cl ss ρ M
theorem z_set (i : Nat) (e : E) : es_ T cl (.set i e) = fsSet i (ee T cl e) := by funext ρ M; simp only [evS, evF, fsSet] <;> rfl
theorem z_own (i : Nat) (e : E) : es_ T cl (.own i e) = fsOwn i (ee T cl e) := by funext ρ M; simp only [evS, fsOwn] <;> rfl
theorem z_asg (g : G) (e : E) : es_ T cl (.asg g e) = fsAsg g (ee T cl e) := by funext ρ M; simp only [evS, evF, fsAsg] <;> rfl
theorem z_setF (o : E) (f : Nat) (e : E) : es_ T cl (.setF o f e) = fsSetF T (ee T cl o) f (ee T cl e) := by funext ρ M; simp only [evS, evF, fsSetF] <;> rfl
theorem z_setR (o k e : E) : es_ T cl (.setR o k e) = fsSetR (ee T cl o) (ee T cl k) (ee T cl e) := by funext ρ M; simp only [evS, evF, fsSetR] <;> rfl
theorem z_setI (i : Nat) (k e : E) : es_ T cl (.setI i k e) = fsSetI i (ee T cl k) (ee T cl e) := by funext ρ M; simp only [evS, evF, fsSetI] <;> rfl
theorem z_app (i : Nat) (e : E) : es_ T cl (.app i e) = fsApp i (ee T cl e) := by funext ρ M; simp only [evS, evF, fsApp] <;> rfl
theorem z_par (i j : Nat) (a b : E) : es_ T cl (.par i j a b) = fsPar i j (ee T cl a) (ee T cl b) := by funext ρ M; simp only [evS, evF, fsPar] <;> rfl
theorem z_ext (i : Nat) (e : E) : es_ T cl (.ext i e) = fsExt i (ee T cl e) := by funext ρ M; simp only [evS, fsExt] <;> rfl
theorem z_pop0 (g : G) (i : Nat) : es_ T cl (.popS g i none) = fsPop0 g i := by funext ρ M; simp only [evS, fsPop0] <;> rfl
theorem z_aug (i : Nat) (op : BOp) (e : E) : es_ T cl (.aug i op e) = fsAug i op (ee T cl e) := by funext ρ M; simp only [evS, fsAug] <;> rfl
theorem z_expr (e : E) : es_ T cl (.expr e) = fsExpr (ee T cl e) := by funext ρ M; simp only [evS, fsExpr] <;> rfl
theorem z_iff (c : E) (a b : List S) : es_ T cl (.iff c a b) = fsIf (ee T cl c) (esL T cl a) (esL T cl b) := by funext ρ M; simp only [evS, evT, fsIf, vt] <;> rfl
theorem z_whl (c : E) (b : List S) : es_ T cl (.whl c b) = fsWhl T.W (ee T cl c) (esL T cl b) := by funext ρ M; simp only [evS, evT, fsWhl, vt] <;> rfl
theorem z_for (g : G) (it : E) (b : List S) : es_ T cl (.forr g it b) = fsFor g (fIt true (ee T cl it)) (esL T cl b) := by
  funext ρ M
  simp only [evS, evF, fsFor, fIt, if_true, bind_assoc]
theorem z_ret (e : E) : es_ T cl (.ret e) = fsRet (ee T cl e) := by funext ρ M; simp only [evS, fsRet] <;> rfl
theorem z_retN : es_ T cl .retN = fun ρ M => .ok (.ret .non, ρ) M := by funext ρ M; simp only [evS]
theorem z_brk : es_ T cl .brk = fun ρ M => .ok (.brk, ρ) M := by funext ρ M; simp only [evS]
theorem z_cnt : es_ T cl .cnt = fun ρ M => .ok (.ct, ρ) M := by funext ρ M; simp only [evS]
theorem z_pass : es_ T cl .pass = fun ρ M => .ok (.nx, ρ) M := by funext ρ M; simp only [evS]
theorem z_rais : es_ T cl .rais = fun _ _ => .stuck := by funext ρ M; simp only [evS]
theorem z_nil : esL T cl [] = fsNil := by funext ρ M; simp only [evSs, fsNil] <;> rfl
theorem z_cons (s : S) (ss : List S) : esL T cl (s :: ss) = fsSeq (es_ T cl s) (esL T cl ss) := by funext ρ M; simp only [evSs, fsSeq] <;> rfl
theorem z_frz (i : Nat) : es_ T cl (.frz i) = fsFrz i := by funext ρ M; simp only [evS, fsFrz] <;> rfl
theorem z_shr (i : Nat) : es_ T cl (.shr i) = fsShr i := by funext ρ M; simp only [evS, fsShr] <;> rfl
end
end Q

/-! EvP: the checker: a def's text against its own form. -/
namespace Q
open PySem L2
structure SE where
  fn : List (Str × Nat)
  cl : List (Str × Nat)
  bt : List Str
  ct : List Nat
  gc : List (Str × MV)
  nm : Nat → Str
  kw : List (Nat × Nat × List Str × List (Option MV)) := []
  /-- classes that are made by names alone -/
  ko : List Nat := []
  /-- tables of defs -/
  ds : List (Str × List (Str × Nat)) := []
  /-- defs with parameters told by name alone -/
  fk : List (Str × Nat) := []
  kf : List (Nat × Nat × List Str × List (Option MV)) := []
def isV (sc : Scope) (x : Str) : Bool := match sc.names.lookup x with
  | some .local => true | some .cell => true | some .free => true | _ => false
def isL (sc : Scope) (x : Str) : Bool := match sc.names.lookup x with
  | some .local => true | _ => false
def isC (sc : Scope) (x : Str) : Bool := match sc.names.lookup x with
  | some .cell => true | _ => false
def isG (sc : Scope) (x : Str) : Bool := match sc.names.lookup x with
  | some .globalImplicit => true | _ => false
def okN (x : Str) : Bool := !(x == ("__debug__" : Str)) && !(x == ("__classdict__" : Str)) && !(x == ("__name__" : Str))
def chkV (N : List Str) (sc : Scope) (i : Nat) (x : Str) : Bool := decide (N[i]? = some x) && isV sc x && okN x
def conC : MV → Const → Bool
  | .int i, .int j => decide (i = j)
  | .bl b, .bool c => b == c
  | .non, .none => true
  | .str s, .str t => decide (s = t)
  | _, _ => false
def opOk : BOp → Operator → Bool
  | .add, .Add => true | .sub, .Sub => true | .mul, .Mult => true | .fdiv, .FloorDiv => true | .mod, .Mod => true | .pow, .Pow => true
  | _, _ => false
def isNonE : E → Bool
  | .con .non => true | _ => false
def isNonC : Expr → Bool
  | .Constant .none _ _ => true | _ => false
def cmpOk (op : COp) (op' : CmpOp) (b : E) (b' : Expr) : Bool := match op, op' with
  | .eq, .Eq => true | .ne, .NotEq => true | .lt, .Lt => true | .le, .LtE => true | .gt, .Gt => true | .ge, .GtE => true
  | .isB, .Is => true | .notB, .IsNot => true
  | .isN, .Is => isNonE b && isNonC b'
  | .notN, .IsNot => isNonE b && isNonC b'
  | .inn, .In => notSet b'
  | .nin, .NotIn => notSet b'
  | _, _ => false
def ordOk : COp → CmpOp → Bool
  | .lt, .Lt => true | .le, .LtE => true | .gt, .Gt => true | .ge, .GtE => true | .eq, .Eq => true
  | _, _ => false
def Bi.name : Bi → Str
  | .len => "len" | .all => "all" | .any => "any" | .sum => "sum" | .maxL => "max" | .minL => "min" | .max2 => "max" | .min2 => "min" | .sortedI => "sorted"
  | .tuple => "tuple" | .list => "list" | .int => "int" | .abs => "abs" | .repr => "repr"
  | .range1 => "range" | .range2 => "range" | .range3 => "range" | .enum => "enumerate" | .zip => "zip"
  | _ => ""
def gname (S : SE) (sc : Scope) (x : Str) : Bool := isG sc x && okN x
def bname (S : SE) (sc : Scope) (x : Str) : Bool := gname S sc x && S.bt.contains x
def Ty.name : Ty → Str
  | .int => "int" | .bool => "bool" | .str => "str" | .tup => "tuple" | .lst => "list" | .dct => "dict" | .cls _ => ""
def tyOk (S : SE) (sc : Scope) (t : Ty) (c : Expr) : Bool := match c with
  | .Name x _ => (match t with
    | .cls C => gname S sc x && decide (S.cl.lookup x = some C) && S.ct.contains C
    | t => bname S sc x && x == t.name)
  | _ => false
def mvEq : MV → MV → Bool
  | .int i, .int j => decide (i = j)
  | .bl b, .bl c => b == c
  | .non, .non => true
  | .str s, .str t => decide (s = t)
  | _, _ => false
def mvEqL : List MV → List MV → Bool
  | [], [] => true
  | x :: xs, y :: ys => mvEq x y && mvEqL xs ys
  | _, _ => false
def mvEqT : MV → MV → Bool
  | .tup xs, .tup ys => mvEqL xs ys
  | a, b => mvEq a b
def noE? : E → Bool
  | .noE => true | _ => false
def isLst : E → Bool
  | .lst _ => true | _ => false
def isList : Expr → Bool
  | .List _ _ => true | _ => false
mutual
def chkG (fc : Bool) (N : List Str) (sc : Scope) : G → Expr → Bool
  | .nm i, e' => (match e' with
    | .Name x _ => decide (N[i]? = some x) && (isL sc x || (fc && isC sc x))
    | _ => false)
  | .tup gs, e' => (match e' with
    | .Tuple es _ _ => chkGs fc N sc gs es
    | _ => false)
def chkGs (fc : Bool) (N : List Str) (sc : Scope) : List G → List Expr → Bool
  | [], es => es.isEmpty
  | g :: gs, es => (match es with
    | e :: es => chkG fc N sc g e && noStar e && chkGs fc N sc gs es
    | [] => false)
end
def isDict0 : Expr → Bool
  | .Dict [] [] _ => true | _ => false
/-- a comprehension's scope as it runs -/
def relS (sc scope : Scope) : Scope := relabel scope { scope := sc, locals := 0, globals := 0, cells := [] }
def isTupX : Expr → Bool
  | .Tuple _ _ _ => true | _ => false
def itOk (b : Bi) (es : List Expr) : Bool := match b, es with
  | .range1, [_] => true | .range2, [_, _] => true | .range3, [_, _, _] => true | .enum, [_] => true | .zip, [_, _] => true
  | _, _ => false
def itTg : E → Expr → Bool
  | .bi .enum _, tg => isTupX tg
  | .bi .zip _, tg => isTupX tg
  | _, _ => true
def patEq : List (Option MV) → List (Option MV) → Bool
  | [], [] => true
  | none :: p, none :: q => patEq p q
  | some a :: p, some b :: q => (mvEq a b || (match a, b with | .tup [], .tup [] => true | _, _ => false)) && patEq p q
  | _, _ => false
def kwIn (L : List (Nat × Nat × List Str × List (Option MV))) (C np : Nat) (pat : List (Option MV)) (ks : List Str) : Bool := decide (ks.length = (pat.filter (·.isNone)).length) && L.any fun q => decide (q.1 = C) && decide (q.2.1 = np) && decide (q.2.2.1 = ks) && patEq q.2.2.2 pat
mutual
def chkE (S : SE) (N : List Str) : Bool → Scope → E → Expr → Bool
  | fl, sc, .var i, e' => (match e' with
    | .Name x _ => chkV N sc i x
    | _ => false)
  | fl, sc, .con c, e' => (match e' with
    | .Constant k _ _ => conC c k
    | .Name x _ => gname S sc x && (match S.gc.lookup x with | some c' => mvEqT c c' | none => false)
    | _ => false)
  | fl, sc, .bin op a b, e' => (match e' with
    | .BinOp a' op' b' _ => opOk op op' && chkE S N false sc a a' && chkE S N false sc b b'
    | _ => false)
  | fl, sc, .neg a, e' => (match e' with
    | .UnaryOp .USub a' _ => chkE S N false sc a a'
    | _ => false)
  | fl, sc, .nt a, e' => (match e' with
    | .UnaryOp .Not a' _ => chkE S N false sc a a'
    | _ => false)
  | fl, sc, .cmp op a b, e' => (match e' with
    | .Compare a' [op'] [b'] _ => cmpOk op op' b b' && chkE S N false sc a a' && chkE S N false sc b b'
    | _ => false)
  | fl, sc, .chain o1 o2 a b c, e' => (match e' with
    | .Compare a' [p1, p2] [b', c'] _ => ordOk o1 p1 && ordOk o2 p2 && chkE S N false sc a a' && chkE S N false sc b b' && chkE S N false sc c c'
    | _ => false)
  | fl, sc, .andd a b, e' => (match e' with
    | .BoolOp .And (a' :: b' :: rest) pos => chkE S N false sc a a' && (if rest.isEmpty then chkE S N false sc b b' else chkE S N false sc b (.BoolOp .And (b' :: rest) pos))
    | _ => false)
  | fl, sc, .orr a b, e' => (match e' with
    | .BoolOp .Or (a' :: b' :: rest) pos => chkE S N false sc a a' && (if rest.isEmpty then chkE S N false sc b b' else chkE S N false sc b (.BoolOp .Or (b' :: rest) pos))
    | _ => false)
  | fl, sc, .ite c a b, e' => (match e' with
    | .IfExp c' a' b' _ => chkE S N false sc c c' && chkE S N false sc a a' && chkE S N false sc b b'
    | _ => false)
  | fl, sc, .tup es, e' => (match e' with
    | .Tuple es' _ _ => chkEs S N sc es es'
    | _ => false)
  | fl, sc, .lst es, e' => (match e' with
    | .List es' _ => chkEs S N sc es es'
    | _ => false)
  | fl, sc, .dct t .nil .nil, e' => isDict0 e'
  | fl, sc, .dct t (.cons k .nil) (.cons v .nil), e' => (match e' with
    | .Dict [some k'] [v'] _ => chkE S N false sc k k' && chkE S N false sc v v'
    | _ => false)
  | fl, sc, .idx a i, e' => (match e' with
    | .Subscript a' i' _ => plainIx i' && chkE S N false sc a a' && chkE S N false sc i i'
    | _ => false)
  | fl, sc, .sl a lo hi, e' => (match e' with
    | .Subscript a' (.Slice lo' hi' none _) _ => chkE S N false sc a a' && (match lo' with | none => noE? lo | some l => !noE? lo && chkE S N false sc lo l) && (match hi' with | none => noE? hi | some l => !noE? hi && chkE S N false sc hi l)
    | _ => false)
  | fl, sc, .call f es, e' => (match e' with
    | .Call (.Name x _) es' [] _ => gname S sc x && decide (S.fn.lookup x = some f) && chkEs S N sc es es'
    | _ => false)
  | fl, sc, .make C es, e' => (match e' with
    | .Call (.Name x _) es' [] _ => gname S sc x && decide (S.cl.lookup x = some C) && !S.ko.contains C && chkEs S N sc es es'
    | _ => false)
  | fl, sc, .mkk C np es pat ks, e' => (match e' with
    | .Call (.Name x _) (a' :: es') kws _ => gname S sc x && decide (S.cl.lookup x = some C) && kws.all (·.arg.isSome) && kwIn S.kw C np pat (kws.filterMap (·.arg)) && chkEs S N sc es (a' :: es') && chkKs S N sc ks kws
    | _ => false)
  | fl, sc, .callk f np es pat ks, e' => (match e' with
    | .Call (.Name x _) (a' :: es') kws _ => gname S sc x && decide (S.fk.lookup x = some f) && kws.all (·.arg.isSome) && kwIn S.kf f np pat (kws.filterMap (·.arg)) && chkEs S N sc es (a' :: es') && chkKs S N sc ks kws
    | _ => false)
  | fl, sc, .meth o m es, e' => (match e' with
    | .Call (.Attribute o' x apos) es' [] pos => decide (x = S.nm m) && plainO o' && decide (es'.length < 30) && (apos.endLine == pos.line) && chkE S N false sc o o' && chkEs S N sc es es'
    | _ => false)
  | fl, sc, .fld o f, e' => (match e' with
    | .Attribute o' x _ => decide (x = S.nm f) && plainO o' && chkE S N false sc o o'
    | _ => false)
  | fl, sc, .bi b es, e' => (match e' with
    | .Call (.Name x _) es' [] _ => (if fl && b.it then itOk b es' else b.fn && !es'.isEmpty) && bname S sc x && x == b.name && chkEs S N sc es es'
    | _ => false)
  | fl, sc, .bm m o es, e' => (match e' with
    | .Call (.Attribute o' x apos) es' [] pos => m.ok && x == m.nm && plainO o' && decide (es'.length < 30) && !es'.isEmpty && (apos.endLine == pos.line) && chkE S N false sc o o' && chkEs S N sc es es'
    | _ => false)
  | fl, sc, .isin e t, e' => (match e' with
    | .Call (.Name x _) [a', c'] [] _ => x == ("isinstance" : Str) && bname S sc x && tyOk S sc t c' && noStar a' && chkE S N false sc e a'
    | _ => false)
  | fl, sc, .lc elt own g it cond, e' => (match e' with
    | .ListComp elt' [⟨tg, it', ifs, 0⟩] scope _ => blkC N sc scope (own.map fun i => (N.getD i "", i)) && g.slots.all (fun j => own.contains j) && chkG false N (relS sc scope) g tg && notSet it' && chkE S N false (relS sc scope) elt elt' &&
        (match ifs with
         | [] => (match cond with | .con (.bl true) => true | _ => false)
         | [c'] => chkE S N false (relS sc scope) cond c'
         | _ => false) &&
        (chkE S N true sc it it' && itTg it tg)
    | _ => false)
  | fl, sc, .lrg a b, e' => (match e' with
    | .Call (.Name x _) [.Call (.Name y _) [a', b'] [] _] [] _ => x == ("list" : Str) && y == ("range" : Str) && bname S sc x && bname S sc y && noStar a' && noStar b' && chkE S N false sc a a' && chkE S N false sc b b'
    | _ => false)
  | fl, sc, .stp a s, e' => (match e' with
    | .Subscript a' (.Slice none none (some s') _) _ => chkE S N false sc a a' && chkE S N false sc s s'
    | _ => false)
  | fl, sc, .rg1 t a, e' => (match e' with
    | .Call (.Name x _) [.Call (.Name y _) [a'] [] _] [] _ => x == (if t = true then ("tuple" : Str) else "list") && y == ("range" : Str) && bname S sc x && bname S sc y && noStar a' && chkE S N false sc a a'
    | _ => false)
  | fl, sc, .disp k D tb es, e' => (match e' with
    | .Call (.Subscript (.Name x _) k' _) es' [] _ => x == D && gname S sc x && decide (S.ds.lookup x = some tb) && plainIx k' && chkE S N false sc k k' && chkEs S N sc es es'
    | _ => false)
  | fl, sc, .shr e, e' => isList e' && isLst e && chkE S N false sc e e'
  | _, _, _, _ => false
def chkEs (S : SE) (N : List Str) : Scope → Es → List Expr → Bool
  | sc, .nil, es' => es'.isEmpty
  | sc, .cons e es, es' => (match es' with
    | e' :: es' => noStar e' && chkE S N false sc e e' && chkEs S N sc es es'
    | [] => false)
def chkKs (S : SE) (N : List Str) : Scope → Es → List Keyword → Bool
  | sc, .nil, ks' => ks'.isEmpty
  | sc, .cons e es, ks' => (match ks' with
    | k' :: ks' => chkE S N false sc e k'.value && chkKs S N sc es ks'
    | [] => false)
end
end Q

/-! EvQ: the checker is right: expressions. -/
namespace Q
open PySem L2
structure BX (Γ : Gam) (T : Tab) (cl : Nat → List MV → Store → Res MV) (ad : Nat → Addr) (S : SE) (X : Cx) : Prop where
  g : Gd Γ X
  c : CallX Γ X T cl ad
  t : Q.TG Γ T
  fn : ∀ x f, S.fn.lookup x = some f → X.mg x = some (.ref (ad f)) ∧ (T.fn f).isSome = true ∧ T.ko f = false
  cls : ∀ x C, S.cl.lookup x = some C → X.mg x = some (.ref (Γ.cl C))
  ct : ∀ C, S.ct.contains C = true → T.cc C = true
  bt : ∀ x, S.bt.contains x = true → X.mg x = none
  gc : ∀ x c, S.gc.lookup x = some c → ∃ v u, X.mg x = some u ∧ RelV v u ∧ ∀ w, WOK Γ w → Rep Γ w c v
  nm : S.nm = Γ.nm
  mf : ∀ C m f, T.mt C m = some f → (T.fn f).isSome = true ∧ T.ko f = false
  kw : S.kw = T.kw
  ko : ∀ C, S.ko.contains C = false → ∀ f, T.ini C = some f → T.ko f = false
  fk : ∀ x f, S.fk.lookup x = some f → X.mg x = some (.ref (ad f)) ∧ (T.fn f).isSome = true
  kf : S.kf = T.kf
  ds : ∀ D tb, S.ds.lookup D = some tb → ∃ p, X.mg D = some (.ref p) ∧ ∀ s f, tb.lookup s = some f → KDct X.K X.w p s (.ref (ad f)) ∧ (T.fn f).isSome = true ∧ T.ko f = false
section
variable {Γ : Gam} {T : Tab} {cl : Nat → List MV → Store → Res MV} {ad : Nat → Addr} {S : SE} {X : Cx}
theorem BX.blk (B : BX Γ T cl ad S X) (s : Shared) (H : Hp) (scope : Scope) (env : PySem.Env) (fp : List Addr) : BX Γ T cl ad S (X.blk s H scope env fp) :=
  ⟨⟨B.g.K, B.g.calm, B.g.nd, B.g.hu, B.g.gu, rfl⟩, B.c, B.t, B.fn, B.cls, B.ct, B.bt, B.gc, B.nm, B.mf, B.kw, B.ko, B.fk, B.kf, B.ds⟩
theorem isV_ok {sc : Scope} {x : Str} (h : isV sc x = true) : Vis sc x := by
  unfold isV at h
  split at h
  · rename_i e; exact .inl e
  · rename_i e; exact .inr (.inl e)
  · rename_i e; exact .inr (.inr e)
  · cases h
theorem isL_ok {sc : Scope} {x : Str} (h : isL sc x = true) : sc.names.lookup x = some .local := by
  unfold isL at h
  split at h
  · rename_i e; exact e
  · cases h
theorem isG_ok {x : Str} (h : isG X.env.scope x = true) : Gl X x := by
  unfold isG at h
  split at h
  · rename_i e; exact e
  · cases h
theorem okN_ok {x : Str} (h : okN x = true) : (x == ("__debug__" : Str)) = false ∧ (x == ("__classdict__" : Str)) = false ∧ x ≠ ("__name__" : Str) := by
  unfold okN at h
  simp only [Bool.and_eq_true, Bool.not_eq_true'] at h
  exact ⟨h.1.1, h.1.2, fun e => by rw [e] at h; exact absurd h.2 (by decide)⟩
theorem chkV_ok {i : Nat} {x : Str} (h : chkV X.N X.env.scope i x = true) : X.N[i]? = some x ∧ Vis X.env.scope x ∧ (x == ("__debug__" : Str)) = false ∧ (x == ("__classdict__" : Str)) = false := by
  unfold chkV at h
  simp only [Bool.and_eq_true, decide_eq_true_eq] at h
  exact ⟨h.1.1, isV_ok h.1.2, (okN_ok h.2).1, (okN_ok h.2).2.1⟩
theorem conC_ok (g : Gd Γ X) {c : MV} {k : Const} {j : Nat} {pos : Pos} (h : conC c k = true) : Snd Γ X (fun _ M => .ok c M) (.Constant k j pos) := by
  unfold conC at h
  split at h
  · cases of_decide_eq_true h; exact s_int g
  · cases beq_iff_eq.mp h; exact s_bl g
  · exact s_non g
  · cases of_decide_eq_true h; exact s_str g
  · cases h
theorem mvEq_ok {a b : MV} (h : mvEq a b = true) : a = b := by
  unfold mvEq at h
  split at h
  · rw [of_decide_eq_true h]
  · rw [beq_iff_eq.mp h]
  · rfl
  · rw [of_decide_eq_true h]
  · cases h
theorem mvEqL_ok : ∀ {a b : List MV}, mvEqL a b = true → a = b
  | [], [], _ => rfl
  | x :: xs, y :: ys, h => by
    simp only [mvEqL, Bool.and_eq_true] at h
    rw [mvEq_ok h.1, mvEqL_ok h.2]
  | [], _ :: _, h => by cases h
  | _ :: _, [], h => by cases h
theorem mvEqT_ok {a b : MV} (h : mvEqT a b = true) : a = b := by
  unfold mvEqT at h
  split at h
  · rw [mvEqL_ok h]
  · exact mvEq_ok h
theorem opOk_ok {op : BOp} {op' : Operator} (h : opOk op op' = true) : op' = opOf op := by
  unfold opOk at h
  split at h <;> first | rfl | cases h
theorem ordOk_ok {op : COp} {op' : CmpOp} (h : ordOk op op' = true) : op' = opC op ∧ op.int = true := by
  unfold ordOk at h
  split at h <;> first | exact ⟨rfl, rfl⟩ | cases h
theorem gname_ok {sc : Scope} {x : Str} (hsc : X.env.scope = sc) (h : gname S sc x = true) : Gl X x ∧ (x == ("__debug__" : Str)) = false ∧ x ≠ ("__name__" : Str) := by
  unfold gname at h
  rw [Bool.and_eq_true] at h
  subst hsc
  exact ⟨isG_ok h.1, (okN_ok h.2).1, (okN_ok h.2).2.2⟩
theorem bname_ok (B : BX Γ T cl ad S X) {x : Str} (h : bname S X.env.scope x = true) : Gl X x ∧ (x == ("__debug__" : Str)) = false ∧ x ≠ ("__name__" : Str) ∧ X.mg x = none := by
  unfold bname at h
  rw [Bool.and_eq_true] at h
  obtain ⟨a, b, c⟩ := gname_ok rfl h.1
  exact ⟨a, b, c, B.bt x h.2⟩
theorem bi_boot {b : Bi} (h : b.fn = true) : bootBuiltins b.name = some b.v := by
  cases b <;> first | exact absurd h (by decide) | decide +kernel
theorem ty_boot {t : Ty} {C : Nat} (h : ∀ C, t ≠ .cls C) (Γ : Gam) : bootBuiltins t.name = some (t.v Γ) ∧ RelV (t.u Γ) (t.v Γ) := by
  cases t with
  | cls C => exact absurd rfl (h C)
  | int => exact ⟨(by decide +kernel : bootBuiltins "int" = some (.type "int")), rfl⟩
  | bool => exact ⟨(by decide +kernel : bootBuiltins "bool" = some (.type "bool")), rfl⟩
  | str => exact ⟨(by decide +kernel : bootBuiltins "str" = some (.type "str")), rfl⟩
  | tup => exact ⟨(by decide +kernel : bootBuiltins "tuple" = some (.type "tuple")), rfl⟩
  | lst => exact ⟨(by decide +kernel : bootBuiltins "list" = some (.type "list")), rfl⟩
  | dct => exact ⟨(by decide +kernel : bootBuiltins "dict" = some (.type "dict")), rfl⟩
theorem tyOk_ok (B : BX Γ T cl ad S X) {t : Ty} {c : Expr} (h : tyOk S X.env.scope t c = true) : t.ok T = true ∧ PE X c (tC (t.u Γ)) ∧ NoStar c := by
  unfold tyOk at h
  split at h
  · rename_i x p
    split at h
    · rename_i C
      simp only [Bool.and_eq_true, decide_eq_true_eq] at h
      obtain ⟨h1, h2, _⟩ := gname_ok rfl h.1.1
      exact ⟨B.ct C h.2, pe_glob h1 (B.cls x C h.1.2) rfl h2, noStar_ok rfl⟩
    · rename_i hne
      simp only [Bool.and_eq_true, beq_iff_eq] at h
      obtain ⟨h1, h2, h3, h4⟩ := bname_ok B h.1
      obtain ⟨h5, h6⟩ := ty_boot (t := t) (C := 0) (fun C e => hne C e) Γ
      rw [h.2] at h1 h2 h3 h4 ⊢
      refine ⟨?_, pe_bltn h1 h4 h5 h6 h3 h2, noStar_ok rfl⟩
      cases t with
      | cls C => exact absurd rfl (hne C)
      | _ => rfl
  · cases h
theorem isC_ok {sc : Scope} {x : Str} (h : isC sc x = true) : sc.names.lookup x = some .cell := by
  unfold isC at h
  split at h
  · rename_i e; exact e
  · cases h
theorem locFn {fc : Bool} (hfc : fc = true → ∀ x, X.fn x = true) {x : Str} (h : (isL X.env.scope x || (fc && isC X.env.scope x)) = true) : Loc X.env.scope x ∧ (X.fn x = true ∨ X.env.scope.names.lookup x = some .local) := by
  rw [Bool.or_eq_true] at h
  rcases h with h | h
  · exact ⟨.inl (isL_ok h), .inr (isL_ok h)⟩
  · rw [Bool.and_eq_true] at h
    exact ⟨.inr (isC_ok h.2), .inl (hfc h.1 x)⟩
mutual
theorem chkG_ok (gd : Gd Γ X) {fc : Bool} (hfc : fc = true → ∀ x, X.fn x = true) : ∀ (g : G) (e : Expr), chkG fc X.N X.env.scope g e = true → PG X e (RG Γ g)
  | .nm i, e, h => by
    simp only [chkG] at h
    split at h
    · simp only [Bool.and_eq_true, decide_eq_true_eq] at h
      obtain ⟨l1, l2⟩ := locFn hfc h.2
      exact g_nm gd.nd h.1 l1 l2
    · cases h
  | .tup gs, e, h => by
    simp only [chkG] at h
    split at h
    · rename_i es k p
      obtain ⟨h1, h2, h3⟩ := chkGs_ok gd hfc gs es h
      exact g_tup gd h1 h2 h3
    · cases h
theorem chkGs_ok (gd : Gd Γ X) {fc : Bool} (hfc : fc = true → ∀ x, X.fn x = true) : ∀ (gs : List G) (es : List Expr), chkGs fc X.N X.env.scope gs es = true → PGs X es (RGs Γ gs) ∧ (assignEach es X.env).length = gs.length ∧ (assignEach es X.env).findIdx? (·.1) = none
  | [], es, h => by
    simp only [chkGs] at h
    cases es with
    | nil => exact ⟨g_nil, rfl, rfl⟩
    | cons e es => cases h
  | g :: gs, es, h => by
    simp only [chkGs] at h
    cases es with
    | nil => cases h
    | cons e es =>
      simp only [Bool.and_eq_true] at h
      obtain ⟨⟨h1, h2⟩, h3⟩ := h
      obtain ⟨a, b, c⟩ := chkGs_ok gd hfc gs es h3
      have hs : assignEach (e :: es) X.env = (false, assign e X.env) :: assignEach es X.env := by
        cases e <;> first | rfl | cases h2
      refine ⟨g_cons (chkG_ok gd hfc g e h1) a (by rw [hs]; rfl), by rw [hs, List.length_cons, List.length_cons, b], ?_⟩
      rw [hs, List.findIdx?_cons, c]
      rfl
end
theorem fold_ok {it : Expr} (h : notSet it = true) (env : PySem.Env) (x : Value) : foldedSetIterable it env x = pure x := by
  cases it <;> first | rfl | cases h
/-- both of an expression -/
def Two (Γ : Gam) (T : Tab) (cl : Nat → List MV → Store → Res MV) (S : SE) (X : Cx) (e : E) (e' : Expr) : Prop :=
  (chkE S X.N false X.env.scope e e' = true → Snd Γ X (ee T cl e) e') ∧ (∀ Sf tg, chkE S X.N true X.env.scope e e' = true → itTg e tg = true → PI X tg e' (RI Γ Sf (fIt Sf (ee T cl e))))
theorem mk2 (B : BX Γ T cl ad S X) {e : E} {e' : Expr} (h1 : chkE S X.N false X.env.scope e e' = true → Snd Γ X (ee T cl e) e') (h2 : chkE S X.N true X.env.scope e e' = true → chkE S X.N false X.env.scope e e' = true) : Two Γ T cl S X e e' :=
  ⟨h1, fun Sf tg h _ => i_exp B.g (h1 (h2 h))⟩

theorem isNonE_ok {b : E} (h : isNonE b = true) : b = .con .non := by
  unfold isNonE at h
  split at h
  · rfl
  · cases h
theorem isNonC_ok {b : Expr} (h : isNonC b = true) : ∃ j p, b = .Constant .none j p := by
  unfold isNonC at h
  split at h
  · exact ⟨_, _, rfl⟩
  · cases h
theorem noE_ok {e : E} (h : noE? e = true) : e = .noE := by
  cases e <;> first | rfl | cases h
theorem nnoE_ok {e : E} (h : noE? e = false) : e ≠ .noE := fun z => by subst z; cases h
set_option maxHeartbeats 4000000 in
theorem patEq_ok : ∀ {p q : List (Option MV)}, patEq p q = true → p = q
  | [], [], _ => rfl
  | none :: p, none :: q, h => by rw [patEq_ok (p := p) (q := q) h]
  | some a :: p, some b :: q, h => by
    simp only [patEq, Bool.and_eq_true, Bool.or_eq_true] at h
    obtain ⟨h1, h2⟩ := h
    rw [patEq_ok h2]
    rcases h1 with h1 | h1
    · rw [mvEq_ok h1]
    · split at h1
      · rfl
      · cases h1
  | [], _ :: _, h => by cases h
  | _ :: _, [], h => by rename_i a _; cases a <;> cases h
  | none :: _, some _ :: _, h => by cases h
  | some _ :: _, none :: _, h => by cases h
theorem kwIn_ok {L : List (Nat × Nat × List Str × List (Option MV))} {C np : Nat} {pat : List (Option MV)} {ks : List Str} (h : kwIn L C np pat ks = true) : ks.length = (pat.filter (·.isNone)).length ∧ (C, np, ks, pat) ∈ L := by
  unfold kwIn at h
  rw [Bool.and_eq_true, decide_eq_true_eq, List.any_eq_true] at h
  obtain ⟨h1, ⟨a, b, c, d⟩, hm, h2⟩ := h
  simp only [Bool.and_eq_true, decide_eq_true_eq] at h2
  obtain ⟨⟨⟨rfl, rfl⟩, rfl⟩, h3⟩ := h2
  rw [← patEq_ok h3]
  exact ⟨by rw [h1, patEq_ok h3], hm⟩
mutual
theorem chkE_ok : ∀ (e : E) (X : Cx) (e' : Expr), BX Γ T cl ad S X → Two Γ T cl S X e e'
  | .var i, X, e', B => mk2 B (fun h => by
      simp only [chkE] at h
      split at h
      · obtain ⟨h1, h2, h3, h4⟩ := chkV_ok h
        rw [q_var]
        exact s_var B.g h1 h2 h3 h4
      · cases h) (fun h => by simpa only [chkE] using h)
  | .con c, X, e', B => mk2 B (fun h => by
      simp only [chkE] at h
      split at h
      · rw [q_con]
        exact conC_ok B.g h
      · rw [Bool.and_eq_true] at h
        obtain ⟨h1, h2, _⟩ := gname_ok rfl h.1
        have h4 := h.2
        split at h4
        · rename_i c' ec
          have e := mvEqT_ok h4
          subst e
          obtain ⟨v, u, g1, g2, g3⟩ := B.gc _ _ ec
          rw [q_con]
          exact s_glob B.g h1 g1 g2 g3 h2
        · cases h4
      · cases h) (fun h => by simpa only [chkE] using h)
  | .bin op a b, X, e', B => mk2 B (fun h => by
      simp only [chkE] at h
      split at h
      · simp only [Bool.and_eq_true] at h
        rw [q_bin, opOk_ok h.1.1]
        exact s_bin B.g ((chkE_ok a X _ B).1 h.1.2) ((chkE_ok b X _ B).1 h.2)
      · cases h) (fun h => by simpa only [chkE] using h)
  | .neg a, X, e', B => mk2 B (fun h => by
      simp only [chkE] at h
      split at h
      · rw [q_neg]
        exact s_neg B.g ((chkE_ok a X _ B).1 h)
      · cases h) (fun h => by simpa only [chkE] using h)
  | .nt a, X, e', B => mk2 B (fun h => by
      simp only [chkE] at h
      split at h
      · rw [q_nt]
        exact s_not B.g ((chkE_ok a X _ B).1 h)
      · cases h) (fun h => by simpa only [chkE] using h)
  | .cmp op a b, X, e', B => mk2 B (fun h => by
      simp only [chkE] at h
      split at h
      · simp only [Bool.and_eq_true] at h
        obtain ⟨⟨h1, h2⟩, h3⟩ := h
        have ha := (chkE_ok a X _ B).1 h2
        have hb := (chkE_ok b X _ B).1 h3
        rw [q_cmp]
        unfold cmpOk at h1
        split at h1
        · exact s_cmp B.g (.inl ⟨rfl, rfl⟩) ha hb
        · exact s_cmp B.g (.inr (.inl ⟨rfl, rfl⟩)) ha hb
        · exact s_cmp B.g (.inr (.inr (.inl ⟨rfl, rfl⟩))) ha hb
        · exact s_cmp B.g (.inr (.inr (.inr (.inl ⟨rfl, rfl⟩)))) ha hb
        · exact s_cmp B.g (.inr (.inr (.inr (.inr (.inl ⟨rfl, rfl⟩))))) ha hb
        · exact s_cmp B.g (.inr (.inr (.inr (.inr (.inr (.inl ⟨rfl, rfl⟩)))))) ha hb
        · exact s_cmp B.g (.inr (.inr (.inr (.inr (.inr (.inr (.inl ⟨rfl, rfl⟩))))))) ha hb
        · exact s_cmp B.g (.inr (.inr (.inr (.inr (.inr (.inr (.inr ⟨rfl, rfl⟩))))))) ha hb
        · rw [Bool.and_eq_true] at h1
          obtain ⟨j, p, rfl⟩ := isNonC_ok h1.2
          have eb := isNonE_ok h1.1
          subst eb
          rw [q_con]
          exact s_isN B.g ha
        · rw [Bool.and_eq_true] at h1
          obtain ⟨j, p, rfl⟩ := isNonC_ok h1.2
          have eb := isNonE_ok h1.1
          subst eb
          rw [q_con]
          exact s_notN B.g ha
        · exact s_in B.g (.inl ⟨rfl, rfl⟩) (notSet_ok h1 _) ha hb
        · exact s_in B.g (.inr ⟨rfl, rfl⟩) (notSet_ok h1 _) ha hb
        · cases h1
      · cases h) (fun h => by simpa only [chkE] using h)
  | .chain o1 o2 a b c, X, e', B => mk2 B (fun h => by
      simp only [chkE] at h
      split at h
      · simp only [Bool.and_eq_true] at h
        obtain ⟨⟨⟨⟨h1, h2⟩, h3⟩, h4⟩, h5⟩ := h
        obtain ⟨rfl, i1⟩ := ordOk_ok h1
        obtain ⟨rfl, i2⟩ := ordOk_ok h2
        rw [q_chain]
        exact s_chain B.g i1 i2 ((chkE_ok a X _ B).1 h3) ((chkE_ok b X _ B).1 h4) ((chkE_ok c X _ B).1 h5)
      · cases h) (fun h => by simpa only [chkE] using h)
  | .andd a b, X, e', B => mk2 B (fun h => by
      simp only [chkE] at h
      split at h
      · rename_i a' b' rest p
        rw [Bool.and_eq_true] at h
        rw [q_and]
        cases rest with
        | nil => exact s_and B.g ((chkE_ok a X _ B).1 h.1) (.one ((chkE_ok b X _ B).1 h.2))
        | cons c' rest => exact s_and B.g ((chkE_ok a X _ B).1 h.1) (.more ((chkE_ok b X _ B).1 h.2))
      · cases h) (fun h => by simpa only [chkE] using h)
  | .orr a b, X, e', B => mk2 B (fun h => by
      simp only [chkE] at h
      split at h
      · rename_i a' b' rest p
        rw [Bool.and_eq_true] at h
        rw [q_or]
        cases rest with
        | nil => exact s_or B.g ((chkE_ok a X _ B).1 h.1) (.one ((chkE_ok b X _ B).1 h.2))
        | cons c' rest => exact s_or B.g ((chkE_ok a X _ B).1 h.1) (.more ((chkE_ok b X _ B).1 h.2))
      · cases h) (fun h => by simpa only [chkE] using h)
  | .ite c a b, X, e', B => mk2 B (fun h => by
      simp only [chkE] at h
      split at h
      · simp only [Bool.and_eq_true] at h
        rw [q_ite]
        exact s_ite B.g ((chkE_ok c X _ B).1 h.1.1) ((chkE_ok a X _ B).1 h.1.2) ((chkE_ok b X _ B).1 h.2)
      · cases h) (fun h => by simpa only [chkE] using h)
  | .tup es, X, e', B => mk2 B (fun h => by
      simp only [chkE] at h
      split at h
      · rw [q_tup]
        exact s_tup B.g ((chkEs_ok es X _ B h).1.pa)
      · cases h) (fun h => by simpa only [chkE] using h)
  | .lst es, X, e', B => mk2 B (fun h => by
      simp only [chkE] at h
      split at h
      · rw [q_lst]
        exact s_lst B.g ((chkEs_ok es X _ B h).1.pa)
      · cases h) (fun h => by simpa only [chkE] using h)
  | .dct t .nil .nil, X, e', B => mk2 B (fun h => by
      simp only [chkE] at h
      unfold isDict0 at h
      split at h
      · rw [q_dct0]
        exact s_dct0 B.g
      · cases h) (fun h => by simpa only [chkE] using h)
  | .dct t (.cons k .nil) (.cons v .nil), X, e', B => mk2 B (fun h => by
      simp only [chkE] at h
      split at h
      · simp only [Bool.and_eq_true] at h
        obtain ⟨h2, h3⟩ := h
        rw [q_dct1]
        cases t with
        | false => exact s_dct1 B.g ((chkE_ok k X _ B).1 h2) ((chkE_ok v X _ B).1 h3)
        | true => exact s_dctT B.g ((chkE_ok k X _ B).1 h2) ((chkE_ok v X _ B).1 h3)
      · cases h) (fun h => by simpa only [chkE] using h)
  | .idx a i, X, e', B => mk2 B (fun h => by
      simp only [chkE] at h
      split at h
      · simp only [Bool.and_eq_true] at h
        rw [q_idx]
        exact s_idx B.g ((chkE_ok a X _ B).1 h.1.2) ((chkE_ok i X _ B).1 h.2) (plainIx_ok h.1.1)
      · cases h) (fun h => by simpa only [chkE] using h)
  | .sl a lo hi, X, e', B => mk2 B (fun h => by
      simp only [chkE] at h
      split at h
      · rename_i a' lo' hi' p2 p
        simp only [Bool.and_eq_true] at h
        obtain ⟨⟨h1, h2⟩, h3⟩ := h
        rw [q_sl]
        refine s_sl B.g ((chkE_ok a X _ B).1 h1) ?_ ?_
        · cases lo' with
          | none =>
            have e := noE_ok h2
            subst e
            rw [q_o0]
            exact s_oNone
          | some l =>
            simp only [Bool.and_eq_true, Bool.not_eq_true'] at h2
            rw [q_o _ _ _ (nnoE_ok h2.1)]
            exact s_oSome ((chkE_ok lo X _ B).1 h2.2).pe
        · cases hi' with
          | none =>
            have e := noE_ok h3
            subst e
            rw [q_o0]
            exact s_oNone
          | some l =>
            simp only [Bool.and_eq_true, Bool.not_eq_true'] at h3
            rw [q_o _ _ _ (nnoE_ok h3.1)]
            exact s_oSome ((chkE_ok hi X _ B).1 h3.2).pe
      · cases h) (fun h => by simpa only [chkE] using h)
  | .call f es, X, e', B => mk2 B (fun h => by
      simp only [chkE] at h
      split at h
      · simp only [Bool.and_eq_true, decide_eq_true_eq] at h
        obtain ⟨h1, h2, _⟩ := gname_ok rfl h.1.1
        obtain ⟨h3, h4, h5⟩ := B.fn _ _ h.1.2
        rw [q_call]
        exact s_call B.g B.c h4 h5 h1 h3 h2 (chkEs_ok es X _ B h.2).1
      · cases h) (fun h => by simpa only [chkE] using h)
  | .make C es, X, e', B => mk2 B (fun h => by
      simp only [chkE] at h
      split at h
      · simp only [Bool.and_eq_true, decide_eq_true_eq, Bool.not_eq_true'] at h
        obtain ⟨h1, h2, _⟩ := gname_ok rfl h.1.1.1
        have h3 := B.cls _ _ h.1.1.2
        rw [q_make]
        exact s_make B.g B.c (B.ko C h.1.2) h1 h3 h2 (chkEs_ok es X _ B h.2).1
      · cases h) (fun h => by simpa only [chkE] using h)
  | .mkk C np es pat ks, X, e', B => mk2 B (fun h => by
      simp only [chkE] at h
      split at h
      · simp only [Bool.and_eq_true, decide_eq_true_eq] at h
        obtain ⟨⟨⟨⟨⟨g1, g2⟩, g3⟩, g4⟩, g5⟩, g6⟩ := h
        obtain ⟨h1, h2, _⟩ := gname_ok rfl g1
        have h3 := B.cls _ _ g2
        obtain ⟨k1, k2⟩ := kwIn_ok g4
        rw [B.kw] at k2
        rw [q_mkk]
        exact s_makeK B.g B.c k2 k1 h1 h3 h2 (chkEs_ok es X _ B g5).1 (chkKs_ok ks X _ B g6) g3 rfl
      · cases h) (fun h => by simpa only [chkE] using h)
  | .callk f np es pat ks, X, e', B => mk2 B (fun h => by
      simp only [chkE] at h
      split at h
      · simp only [Bool.and_eq_true, decide_eq_true_eq] at h
        obtain ⟨⟨⟨⟨⟨g1, g2⟩, g3⟩, g4⟩, g5⟩, g6⟩ := h
        obtain ⟨h1, h2, _⟩ := gname_ok rfl g1
        have h3 := B.fk _ _ g2
        obtain ⟨k1, k2⟩ := kwIn_ok g4
        rw [B.kf] at k2
        rw [q_callk]
        exact s_callK B.g B.c h3.2 k2 k1 h1 h3.1 h2 (chkEs_ok es X _ B g5).1 (chkKs_ok ks X _ B g6) g3 rfl
      · cases h) (fun h => by simpa only [chkE] using h)
  | .lrg a b, X, e', B => mk2 B (fun h => by
      simp only [chkE] at h
      split at h
      · simp only [Bool.and_eq_true, beq_iff_eq] at h
        obtain ⟨⟨⟨⟨⟨⟨⟨h1, h2⟩, h3⟩, h4⟩, h5⟩, h6⟩, h7⟩, h8⟩ := h
        subst h1 h2
        obtain ⟨g1, _, _, g4⟩ := bname_ok B h3
        obtain ⟨g5, _, _, g8⟩ := bname_ok B h4
        rw [q_lrg]
        exact s_lrg B.g g1 g4 g5 g8 ((chkE_ok a X _ B).1 h7) ((chkE_ok b X _ B).1 h8) (noStar_ok h5) (noStar_ok h6)
      · cases h) (fun h => by simpa only [chkE] using h)
  | .meth o m es, X, e', B => mk2 B (fun h => by
      simp only [chkE] at h
      split at h
      · simp only [Bool.and_eq_true, decide_eq_true_eq] at h
        obtain ⟨⟨⟨⟨⟨h1, h2⟩, h3⟩, h4⟩, h5⟩, h6⟩ := h
        rw [q_meth]
        exact s_meth B.g B.c (by rw [h1, B.nm]) ((chkE_ok o X _ B).1 h5) h2 (chkEs_ok es X _ B h6).1 h3 h4 (fun C f => B.mf C m f)
      · cases h) (fun h => by simpa only [chkE] using h)
  | .fld o f, X, e', B => mk2 B (fun h => by
      simp only [chkE] at h
      split at h
      · simp only [Bool.and_eq_true, decide_eq_true_eq] at h
        rw [q_fld]
        exact s_fld B.g B.t (by rw [h.1.1, B.nm]) ((chkE_ok o X _ B).1 h.2) h.1.2
      · cases h) (fun h => by simpa only [chkE] using h)
  | .bm m o es, X, e', B => mk2 B (fun h => by
      simp only [chkE] at h
      split at h
      · rename_i o' x apos es' p
        simp only [Bool.and_eq_true, decide_eq_true_eq, beq_iff_eq, Bool.not_eq_true'] at h
        obtain ⟨⟨⟨⟨⟨⟨⟨h1, h2⟩, h3⟩, h4⟩, h5⟩, h6⟩, h7⟩, h8⟩ := h
        subst h2
        rw [q_bm]
        cases es' with
        | nil => cases h5
        | cons a' es' => exact s_bm1 B.g h1 ((chkE_ok o X _ B).1 h7) h3 (chkEs_ok es X _ B h8).1 h4 (by rw [h6]; exact beq_self_eq_true _)
      · cases h) (fun h => by simpa only [chkE] using h)
  | .isin e t, X, e', B => mk2 B (fun h => by
      simp only [chkE] at h
      split at h
      · simp only [Bool.and_eq_true, beq_iff_eq] at h
        obtain ⟨⟨⟨⟨h1, h2⟩, h3⟩, h4⟩, h5⟩ := h
        subst h1
        obtain ⟨g1, g2, g3, g4⟩ := bname_ok B h2
        obtain ⟨t1, t2, t3⟩ := tyOk_ok B h3
        rw [q_isin]
        exact s_isin B.g B.t t1 g1 g4 ((chkE_ok e X _ B).1 h5) t2 (noStar_ok h4) t3
      · cases h) (fun h => by simpa only [chkE] using h)
  | .stp a s, X, e', B => mk2 B (fun h => by
      simp only [chkE] at h
      split at h
      · simp only [Bool.and_eq_true] at h
        rw [q_stp]
        exact s_stp B.g ((chkE_ok a X _ B).1 h.1) ((chkE_ok s X _ B).1 h.2)
      · cases h) (fun h => by simpa only [chkE] using h)
  | .rg1 t a, X, e', B => mk2 B (fun h => by
      simp only [chkE] at h
      split at h
      · simp only [Bool.and_eq_true, beq_iff_eq] at h
        obtain ⟨⟨⟨⟨⟨h1, h2⟩, h3⟩, h4⟩, h5⟩, h7⟩ := h
        subst h2
        obtain ⟨g1, _, _, g4⟩ := bname_ok B h3
        obtain ⟨g5, _, _, g8⟩ := bname_ok B h4
        rw [q_rg1]
        exact s_rg1 B.g h1 g1 g4 g5 g8 ((chkE_ok a X _ B).1 h7) (noStar_ok h5)
      · cases h) (fun h => by simpa only [chkE] using h)
  | .disp k D tb es, X, e', B => mk2 B (fun h => by
      simp only [chkE] at h
      split at h
      · simp only [Bool.and_eq_true, beq_iff_eq, decide_eq_true_eq] at h
        obtain ⟨⟨⟨⟨⟨h1, h2⟩, h3⟩, h4⟩, h5⟩, h6⟩ := h
        subst h1
        obtain ⟨g1, g2, _⟩ := gname_ok rfl h2
        obtain ⟨p, g3, g4⟩ := B.ds _ _ h3
        rw [q_disp]
        exact s_disp B.g B.c g1 g3 g2 g4 ((chkE_ok k X _ B).1 h5) (plainIx_ok h4) (chkEs_ok es X _ B h6).1
      · cases h) (fun h => by simpa only [chkE] using h)
  | .shr e, X, e', B => mk2 B (fun h => by
      simp only [chkE, Bool.and_eq_true] at h
      obtain ⟨⟨h1, h2⟩, h3⟩ := h
      rw [q_shr]
      cases e' <;> first
        | exact s_shr B.g ((chkE_ok e X _ B).1 h3)
        | cases h1) (fun h => by simpa only [chkE] using h)
  | .bi b es, X, e', B => ⟨fun h => (by
      simp only [chkE, Bool.false_and] at h
      split at h
      · rename_i x p es' pos
        simp only [Bool.and_eq_true, beq_iff_eq, Bool.not_eq_true', if_neg Bool.false_ne_true] at h
        obtain ⟨⟨⟨⟨h1, h2⟩, h3⟩, h4⟩, h5⟩ := h
        subst h4
        obtain ⟨g1, g2, g3, g4⟩ := bname_ok B h3
        rw [q_bi]
        cases es' with
        | nil => cases h2
        | cons a' es' => exact s_bi B.g h1 g1 g4 (bi_boot h1) (chkEs_ok es X _ B h5).2 g3 g2
      · cases h), fun Sf tg h ht => (by
      simp only [chkE, Bool.true_and] at h
      split at h
      · rename_i x p es' pos
        simp only [Bool.and_eq_true, beq_iff_eq] at h
        obtain ⟨⟨⟨h1, h3⟩, h4⟩, h5⟩ := h
        subst h4
        obtain ⟨g1, g2, g3, g4⟩ := bname_ok B h3
        have ha := (chkEs_ok es X _ B h5).2
        by_cases hb : b.it = true
        · rw [if_pos hb] at h1
          rw [q_bi]
          unfold itOk at h1
          split at h1
          · exact i_range1 B.g g1 g4 ha
          · exact i_range2 B.g g1 g4 ha
          · exact i_range3 B.g g1 g4 ha
          · cases tg <;> first
              | exact i_enum B.g g1 g4 ha
              | cases ht
          · cases tg <;> first
              | exact i_zip B.g g1 g4 ha
              | cases ht
          · cases h1
        · rw [if_neg hb] at h1
          simp only [Bool.and_eq_true, Bool.not_eq_true'] at h1
          cases es' with
          | nil => cases h1.2
          | cons a' es' =>
            refine i_exp B.g ?_
            rw [q_bi]
            exact s_bi B.g h1.1 g1 g4 (bi_boot h1.1) ha g3 g2
      · cases h)⟩
  | .lc elt own g it cond, X, e', B => mk2 B (fun h => by
      simp only [chkE] at h
      split at h
      · rename_i elt' tg it' ifs scope p
        simp only [Bool.and_eq_true] at h
        obtain ⟨⟨⟨⟨⟨⟨h1, h2⟩, h3⟩, h4⟩, h5⟩, h6⟩, h7, h8⟩ := h
        have ok := blkOk_by h1
        have hsl : ∀ j ∈ g.slots, j ∈ own := fun j hj => by
          have := List.all_eq_true.mp h2 j hj
          simpa using this
        have hmap : (own.map fun i => (X.N.getD i "", i)).map (·.2) = own := by rw [List.map_map]; simp [Function.comp_def]
        rw [q_lc]
        refine .of_pe B.g ((pe_lc (tt := RDb Γ (vt (ee T cl cond))) B.g.calm B.g.nd ((chkE_ok it X it' B).2 false tg h7 h8) ok (fun s H C cls fp => chkG_ok (X := X.blk s H scope (compEnvC scope cls C X.env) fp) (B.blk s H scope _ fp).g (fc := false) (fun z => (nomatch z)) g tg h3)
          (fun s H C cls fp => ?_) (fun s H C cls fp => ((chkE_ok elt (X.blk s H scope (compEnvC scope cls C X.env) fp) elt' (B.blk s H scope _ fp)).1 h5).pe) (fold_ok h4 _)).imp fun σ H Q hq => ?_) (fun _ => rfl) (fun _ _ _ z => nomatch z)
        · cases ifs with
          | nil =>
            simp only at h6
            split at h6
            · rw [q_con]; exact t_nil
            · cases h6
          | cons c' ifs =>
            cases ifs with
            | nil => exact t_one ((chkE_ok cond (X.blk s H scope (compEnvC scope cls C X.env) fp) c' (B.blk s H scope _ fp)).1 h6)
            | cons _ _ => cases h6
        · rw [hmap]
          exact rd_lc B.g hsl hq
      · cases h) (fun h => by simpa only [chkE] using h)
  | .glb g, X, e', B => mk2 B (fun h => by simp [chkE] at h) (fun h => by simpa only [chkE] using h)
  | .noE, X, e', B => mk2 B (fun h => by simp [chkE] at h) (fun h => by simpa only [chkE] using h)
  | .lc2 _ _ _ _ _ _ _ _ _, X, e', B => mk2 B (fun h => by simp [chkE] at h) (fun h => by simpa only [chkE] using h)
  | .dc _ _ _ _ _ _, X, e', B => mk2 B (fun h => by simp [chkE] at h) (fun h => by simpa only [chkE] using h)
  | .dct t .nil (.cons _ _), X, e', B => mk2 B (fun h => by simp [chkE] at h) (fun h => by simp [chkE] at h)
  | .dct t (.cons _ _) .nil, X, e', B => mk2 B (fun h => by simp [chkE] at h) (fun h => by simp [chkE] at h)
  | .dct t (.cons _ (.cons _ _)) (.cons _ _), X, e', B => mk2 B (fun h => by simp [chkE] at h) (fun h => by simp [chkE] at h)
  | .dct t (.cons _ .nil) (.cons _ (.cons _ _)), X, e', B => mk2 B (fun h => by simp [chkE] at h) (fun h => by simp [chkE] at h)
theorem chkEs_ok : ∀ (es : Es) (X : Cx) (es' : List Expr), BX Γ T cl ad S X → chkEs S X.N X.env.scope es es' = true → ArgK Γ X (eks T cl es) es' ∧ ArgS Γ X (ess T cl es) es'
  | .nil, X, es', B, h => by
    simp only [chkEs] at h
    cases es' with
    | nil => rw [q_nil, q_nils]; exact ⟨argK_nil, argS_nil⟩
    | cons _ _ => cases h
  | .cons e es, X, es', B, h => by
    simp only [chkEs] at h
    cases es' with
    | nil => cases h
    | cons e' es' =>
      simp only [Bool.and_eq_true] at h
      have h1 := (chkE_ok e X e' B).1 h.1.2
      obtain ⟨h2, h3⟩ := chkEs_ok es X es' B h.2
      rw [q_cons, q_conss]
      exact ⟨argK_cons h1 h2 (noStar_ok h.1.1), argS_cons h1 h3 (noStar_ok h.1.1)⟩
theorem chkKs_ok : ∀ (es : Es) (X : Cx) (ks' : List Keyword), BX Γ T cl ad S X → chkKs S X.N X.env.scope es ks' = true → PK X ks' (RDk Γ (eks T cl es))
  | .nil, X, ks', B, h => by
    simp only [chkKs] at h
    cases ks' with
    | nil => rw [q_nil]; exact s_knil
    | cons _ _ => cases h
  | .cons e es, X, ks', B, h => by
    simp only [chkKs] at h
    cases ks' with
    | nil => cases h
    | cons k' ks' =>
      simp only [Bool.and_eq_true] at h
      obtain ⟨a, v, p⟩ := k'
      rw [q_cons]
      exact s_kcons ((chkE_ok e X v B).1 h.1).pe (chkKs_ok es X ks' B h.2)
end
end
end Q

/-! EvR: the checker: statements, defs. -/
namespace Q
open PySem L2
def isComp : Expr → Bool
  | .ListComp _ _ _ _ => true | .SetComp _ _ _ _ => true | .DictComp _ _ _ _ _ => true
  | _ => false
def isLC : Expr → Bool
  | .ListComp _ _ _ _ => true
  | _ => false
/-- name = [..]: stored where it is made -/
def swC (sc : Scope) (x : Str) (px : Pos) (e : Expr) : Bool := match e with
  | .ListComp _ _ scope pos => (match sc.kind with | .function => true | _ => false) && isL sc x && (px.line == pos.line) && !(scope.names.any fun (n, k) => n == x && (k == .local || k == .cell))
  | _ => false
def notTup : Expr → Bool
  | .Tuple _ _ _ => false | _ => true
def isFun (sc : Scope) : Bool := match sc.kind with | .function => true | _ => false
/-- a name, a tuple of targets -/
def isNT : Expr → Bool
  | .Name _ _ => true | .Tuple _ _ _ => true
  | _ => false
mutual
def chkS (S : SE) (N : List Str) (sc : Scope) : Q.S → Stmt → Bool
  | .set i e, st => (match st with
    | .Assign [.Name x px] e' _ => decide (N[i]? = some x) && (isL sc x || (true && isC sc x)) && chkE S N false sc e e' && (!isComp e' || (isC sc x && isLC e') || swC sc x px e')
    | _ => false)
  | .own i e, st => (match st with
    | .Assign [.Name x px] e' _ => decide (N[i]? = some x) && (isL sc x || (true && isC sc x)) && chkE S N false sc e e' && (!isComp e' || (isC sc x && isLC e') || swC sc x px e')
    | _ => false)
  | .asg g e, st => (match st with
    | .Assign [.Tuple es k p] e' _ => chkG true N sc g (.Tuple es k p) && !isComp e' && notTup e' && chkE S N false sc e e'
    | _ => false)
  | .setF o f e, st => (match st with
    | .Assign [.Attribute o' x _] e' _ => decide (x = S.nm f) && !isComp e' && chkE S N false sc o o' && chkE S N false sc e e'
    | _ => false)
  | .setR o k e, st => (match st with
    | .Assign [.Subscript o' k' _] e' _ => !isComp e' && plainIx k' && chkE S N false sc o o' && chkE S N false sc k k' && chkE S N false sc e e'
    | _ => false)
  | .setI i k e, st => (match st with
    | .Assign [.Subscript (.Name x _) k' _] e' _ => !isComp e' && plainIx k' && chkV N sc i x && chkE S N false sc k k' && chkE S N false sc e e'
    | _ => false)
  | .app i e, st => (match st with
    | .Expr (.Call (.Attribute (.Name x _) m apos) [e'] [] cpos) _ => m == ("append" : Str) && chkV N sc i x && noStar e' && (apos.endLine == cpos.line) && chkE S N false sc e e'
    | _ => false)
  | .ext i e, st => (match st with
    | .Expr (.Call (.Attribute (.Name x _) m apos) [e'] [] cpos) _ => m == ("extend" : Str) && chkV N sc i x && noStar e' && (apos.endLine == cpos.line) && chkE S N false sc e e'
    | _ => false)
  | .par i j a b, st => (match st with
    | .Assign [.Tuple [.Name x px, .Name y py] _ _] (.Tuple [a', b'] _ _) _ => decide (N[i]? = some x) && decide (N[j]? = some y) && !decide (i = j) && isL sc x && isL sc y && !decide (x = y) && decide (py.line = px.line) && noStar a' && noStar b' && isFun sc && !(foldedForSure 8 a' && foldedForSure 8 b') && !(constantsAlone 8 a' && constantsAlone 8 b') && chkE S N false sc a a' && chkE S N false sc b b'
    | _ => false)
  | .expr e, st => (match st with
    | .Expr e' _ => !isComp e' && chkE S N false sc e e'
    | _ => false)
  | .iff c a b, st => (match st with
    | .If c' a' b' _ => chkE S N false sc c c' && chkSs S N sc a a' && chkSs S N sc b b'
    | _ => false)
  | .whl c b, st => (match st with
    | .While c' b' [] _ => chkE S N false sc c c' && chkSs S N sc b b'
    | _ => false)
  | .forr g it b, st => (match st with
    | .For tg it' b' [] _ => chkG true N sc g tg && notSet it' && itTg it tg && chkE S N true sc it it' && chkSs S N sc b b'
    | _ => false)
  | .ret e, st => (match st with
    | .Return (some e') _ => chkE S N false sc e e'
    | _ => false)
  | .retN, st => (match st with
    | .Return none _ => true
    | _ => false)
  | .brk, st => (match st with
    | .Break _ => true
    | _ => false)
  | .cnt, st => (match st with
    | .Continue _ => true
    | _ => false)
  | .pass, st => (match st with
    | .Pass _ => true
    | _ => false)
  | .rais, _ => true
  | .popS g i none, st => (match st with
    | .Assign [tg] (.Call (.Attribute (.Name x _) m apos) [] [] cpos) _ => m == ("pop" : Str) && chkV N sc i x && (apos.endLine == cpos.line) && isNT tg && chkG true N sc g tg
    | _ => false)
  | .aug i .add e, st => (match st with
    | .AugAssign (.Name x _) .Add e' _ => decide (N[i]? = some x) && (isL sc x || (true && isC sc x)) && chkE S N false sc e e'
    | _ => false)
  | .aug i .sub e, st => (match st with
    | .AugAssign (.Name x _) .Sub e' _ => decide (N[i]? = some x) && (isL sc x || (true && isC sc x)) && chkE S N false sc e e'
    | _ => false)
  | _, _ => false
def chkSs (S : SE) (N : List Str) (sc : Scope) : List Q.S → List Stmt → Bool
  | [], sts => sts.isEmpty
  | .frz _ :: ss, sts => chkSs S N sc ss sts
  | .shr _ :: ss, sts => chkSs S N sc ss sts
  | s :: ss, sts => (match sts with
    | st :: sts => chkS S N sc s st && chkSs S N sc ss sts
    | [] => false)
end
section
variable {Γ : Gam} {T : Tab} {cl : Nat → List MV → Store → Res MV} {ad : Nat → Addr} {S : SE} {X : Cx}
theorem sw_not {e : Expr} (h : isComp e = false) (t : Option Expr) (l : Nat) (env : PySem.Env) : swapsWith e t l env = pure false := by
  cases e <;> first | rfl | cases h
theorem sole (t e : Expr) (l : Nat) (env : PySem.Env) : swapsWithSole [t] e l env = swapsWith e (some t) l env := rfl
theorem ss_tup {e : Expr} (h : notTup e = true) (es : List Expr) (k : Nat) (p : Pos) (env : PySem.Env) : swappedStores [.Tuple es k p] e env = pure none := by
  cases e <;> first | rfl | cases h
theorem ss_sub (o i : Expr) (p : Pos) (e : Expr) (env : PySem.Env) : swappedStores [.Subscript o i p] e env = pure none := by
  cases e <;> rfl
theorem ss_nt {tg e : Expr} (h : isNT tg = true) (he : notTup e = true) (env : PySem.Env) : swappedStores [tg] e env = pure none := by
  cases tg <;> first | (cases h; done) | (cases e <;> first | rfl | (cases he; done))
theorem ae_nt {tg : Expr} (h : isNT tg = true) (env : PySem.Env) : (assignEach [tg] env).map (·.2) = [assign tg env] := by
  cases tg <;> first | rfl | cases h
theorem isFun_ok {env : PySem.Env} (h : isFun env.scope = true) : env.blockKind = .function := by
  unfold isFun at h
  split at h
  · rename_i e
    unfold PySem.Env.blockKind
    rw [e]
    rfl
  · cases h
theorem ss_par {x y : Str} {px py pt pt2 : Pos} {kt k2 : Nat} {a b : Expr} {env : PySem.Env} (hb : env.blockKind = .function) (hx : env.scope.names.lookup x = some .local) (hy : env.scope.names.lookup y = some .local) (hxy : x ≠ y) (hl : py.line = px.line) (na : noStar a = true) (nb : noStar b = true)
   (hf : (foldedForSure 8 a && foldedForSure 8 b) = false) (hc : (constantsAlone 8 a && constantsAlone 8 b) = false) : swappedStores [.Tuple [.Name x px, .Name y py] kt pt] (.Tuple [a, b] k2 pt2) env = pure (some [x, y]) := by
  have hall : ∀ e ∈ [a, b], noStar e = true := fun e he => by
    rcases List.mem_cons.mp he with rfl | he
    · exact na
    · rw [List.mem_singleton.mp he]; exact nb
  have kx : env.kindOf x = some .local := hx
  have ky : env.kindOf y = some .local := hy
  have hyx : (y == x) = false := by simpa using Ne.symm hxy
  unfold swappedStores
  simp only [hb]
  rw [if_neg (by simp)]
  rw [if_neg (by rw [Bool.not_eq_true, List.any_eq_false]; intro e he; have := hall e he; revert this; cases e <;> first | (intro z; cases z; done) | (intro _; exact Bool.false_ne_true))]
  simp only [List.filterMap_cons, List.filterMap_nil, kx, ky, Expr.pos, List.head?_cons, Option.map_some, Option.getD_some, hl, beq_self_eq_true, Bool.and_self, if_true]
  rw [if_neg (by simp [List.eraseDups_cons, List.filter, hyx])]
  rw [if_neg (by simp only [List.all_cons, List.all_nil, Bool.and_true]; rw [hf]; simp), if_neg (by simp only [List.all_cons, List.all_nil, Bool.and_true]; rw [hc]; simp)]
theorem is_lc {e : E} {N : List Str} {sc : Scope} {elt' : Expr} {gens : List Comprehension} {scope : Scope} {p : Pos} (h : chkE S N false sc e (.ListComp elt' gens scope p) = true) : ∃ elt own g it cond, e = .lc elt own g it cond := by
  cases e with
  | lc elt own g it cond => exact ⟨_, _, _, _, _, rfl⟩
  | dct t ks vs =>
    cases ks with
    | nil => cases vs <;> simp [chkE, isDict0] at h
    | cons k ks =>
      cases ks with
      | nil =>
        cases vs with
        | nil => simp [chkE] at h
        | cons v vs => cases vs <;> simp [chkE] at h
      | cons _ _ => cases vs <;> simp [chkE] at h
  | shr e => simp [chkE, isList] at h
  | _ => simp [chkE] at h
/-- the parts of a comprehension -/
theorem lc_parts (B : BX Γ T cl ad S X) {elt : E} {own : List Nat} {g : G} {it cond : E} {e' : Expr} (h : chkE S X.N false X.env.scope (.lc elt own g it cond) e' = true) :
    ∃ elt' tg it' ifs scope p, e' = .ListComp elt' [⟨tg, it', ifs, 0⟩] scope p ∧ PI X tg it' (RI Γ false (fIt false (ee T cl it))) ∧ BlkOk X.N X.env.scope scope (own.map fun i => (X.N.getD i "", i)) ∧
      (∀ (s : Shared) (H : Hp) (C : Addr) (cls : List (Str × Addr)) (fp : List Addr), PG (X.blk s H scope (compEnvC scope cls C X.env) fp) tg (RG Γ g)) ∧
      (∀ (s : Shared) (H : Hp) (C : Addr) (cls : List (Str × Addr)) (fp : List Addr), PTs (X.blk s H scope (compEnvC scope cls C X.env) fp) ifs (RDb Γ (vt (ee T cl cond)))) ∧
      (∀ (s : Shared) (H : Hp) (C : Addr) (cls : List (Str × Addr)) (fp : List Addr), PE (X.blk s H scope (compEnvC scope cls C X.env) fp) elt' (RD Γ (ee T cl elt))) ∧ (∀ x, foldedSetIterable it' X.env x = pure x) ∧ (∀ j ∈ g.slots, j ∈ own) := by
  simp only [chkE] at h
  split at h
  · rename_i elt' tg it' ifs scope p
    simp only [Bool.and_eq_true] at h
    obtain ⟨⟨⟨⟨⟨⟨h1, h2⟩, h3⟩, h4⟩, h5⟩, h6⟩, h7, h8⟩ := h
    refine ⟨elt', tg, it', ifs, scope, p, rfl, (chkE_ok it X it' B).2 false tg h7 h8, blkOk_by h1, fun s H C cls fp => chkG_ok (X := X.blk s H scope (compEnvC scope cls C X.env) fp) (B.blk s H scope _ fp).g (fc := false) (fun z => (nomatch z)) g tg h3, fun s H C cls fp => ?_,
      fun s H C cls fp => ((chkE_ok elt (X.blk s H scope (compEnvC scope cls C X.env) fp) elt' (B.blk s H scope _ fp)).1 h5).pe, fold_ok h4 _, fun j hj => by have := List.all_eq_true.mp h2 j hj; simpa using this⟩
    cases ifs with
    | nil =>
      simp only at h6
      split at h6
      · rw [q_con]; exact t_nil
      · cases h6
    | cons c' ifs =>
      cases ifs with
      | nil => exact t_one ((chkE_ok cond (X.blk s H scope (compEnvC scope cls C X.env) fp) c' (B.blk s H scope _ fp)).1 h6)
      | cons _ _ => cases h6
  · cases h
theorem sw_cell {elt : Expr} {gens : List Comprehension} {scope : Scope} {p px : Pos} {x : Str} {l : Nat} {env : PySem.Env} (h : env.scope.names.lookup x = some .cell) : swapsWith (.ListComp elt gens scope p) (some (.Name x px)) l env = pure false := by
  have hk : env.kindOf x = some NameKind.cell := h
  unfold swapsWith
  simp only [hk]
  show pure _ = pure false
  congr 1
  rw [show (some NameKind.cell == some NameKind.local) = false from rfl]
  simp
theorem set_ok (B : BX Γ T cl ad S X) (hfn : ∀ x, X.fn x = true) {i : Nat} {x : Str} {px pos : Pos} {e : E} {e' : Expr} (hN : X.N[i]? = some x) (hl : (isL X.env.scope x || (true && isC X.env.scope x)) = true) (he : chkE S X.N false X.env.scope e e' = true) (hs : (!isComp e' || (isC X.env.scope x && isLC e') || swC X.env.scope x px e') = true) :
    SetOk Γ X i (ee T cl e) (.Assign [.Name x px] e' pos) := by
  obtain ⟨l1, l2⟩ := locFn (fc := true) (fun _ => hfn) hl
  by_cases hc : isComp e' = false
  · exact ps_set B.g.nd hN l1 ((chkE_ok e X e' B).1 he).pe (sw_not hc _ _ _) l2
  by_cases hcell : (isC X.env.scope x && isLC e') = true
  · rw [Bool.and_eq_true] at hcell
    have h2 := hcell.2
    unfold isLC at h2
    split at h2
    · exact ps_set B.g.nd hN l1 ((chkE_ok e X _ B).1 he).pe (sw_cell (isC_ok hcell.1)) l2
    · cases h2
  · have hc' : isComp e' = true := by cases h : isComp e' <;> first | rfl | exact absurd h hc
    have hcell' : (isC X.env.scope x && isLC e') = false := by cases h : (isC X.env.scope x && isLC e') <;> first | rfl | exact absurd h hcell
    rw [hc', Bool.not_true, Bool.false_or, hcell', Bool.false_or] at hs
    have hloc : X.env.scope.names.lookup x = some .local := by
      unfold swC at hs
      split at hs
      · simp only [Bool.and_eq_true] at hs
        exact isL_ok hs.1.1.2
      · cases hs
    have hlc : ∃ elt own g it cond, e = .lc elt own g it cond := by
      unfold swC at hs
      split at hs
      · exact is_lc he
      · cases hs
    obtain ⟨elt, own, g, it, cond, rfl⟩ := hlc
    obtain ⟨elt', tg, it', ifs, scope, p, rfl, p1, p2, p3, p4, p5, p6, p7⟩ := lc_parts B he
    simp only [swC, Bool.and_eq_true, Bool.not_eq_true'] at hs
    obtain ⟨⟨⟨h1, h2⟩, h3⟩, h4⟩ := hs
    have hk : X.env.scope.kind = .function := by
      split at h1
      · assumption
      · cases h1
    have hmap : (own.map fun i => (X.N.getD i "", i)).map (·.2) = own := by rw [List.map_map]; simp [Function.comp_def]
    refine (ps_setLc B.g.calm B.g.nd hN hloc (sw_true hk hloc h3 h4) p1 p2 p3 p4 p5 p6).imp fun D σ H h => ?_
    rw [q_lc] at h
    rw [hmap]
    exact rd_lc B.g p7 h

mutual
theorem chkS_ok (B : BX Γ T cl ad S X) (hfn : ∀ x, X.fn x = true) : ∀ (s : Q.S) (st : Stmt), chkS S X.N X.env.scope s st = true → PS X st (RS Γ (es_ T cl s))
  | .set i e, st, h => by
    simp only [chkS] at h
    split at h
    · simp only [Bool.and_eq_true, decide_eq_true_eq] at h
      rw [z_set]
      exact st_set (set_ok B hfn h.1.1.1 h.1.1.2 h.1.2 h.2)
    · cases h
  | .own i e, st, h => by
    simp only [chkS] at h
    split at h
    · simp only [Bool.and_eq_true, decide_eq_true_eq] at h
      rw [z_own]
      exact st_own (set_ok B hfn h.1.1.1 h.1.1.2 h.1.2 h.2)
    · cases h
  | .asg g e, st, h => by
    simp only [chkS] at h
    split at h
    · simp only [Bool.and_eq_true, Bool.not_eq_true'] at h
      rw [z_asg]
      exact st_asg ((chkE_ok e X _ B).1 h.2) (chkG_ok B.g (fun _ => hfn) g _ h.1.1.1) (by rw [sole]; exact sw_not h.1.1.2 _ _ _) (ss_tup h.1.2 _ _ _ _) rfl
    · cases h
  | .setF o f e, st, h => by
    simp only [chkS] at h
    split at h
    · simp only [Bool.and_eq_true, Bool.not_eq_true', decide_eq_true_eq] at h
      rw [z_setF]
      exact st_setF B.g B.t (by rw [h.1.1.1, B.nm]) ((chkE_ok o X _ B).1 h.1.2) ((chkE_ok e X _ B).1 h.2) (sw_not h.1.1.2 _ _ _)
    · cases h
  | .setR o k e, st, h => by
    simp only [chkS] at h
    split at h
    · simp only [Bool.and_eq_true, Bool.not_eq_true'] at h
      rw [z_setR]
      exact st_setR B.g h.1.1.1.2 ((chkE_ok o X _ B).1 h.1.1.2) ((chkE_ok k X _ B).1 h.1.2) ((chkE_ok e X _ B).1 h.2) (sw_not h.1.1.1.1 _ _ _) (ss_sub _ _ _ _ _)
    · cases h
  | .setI i k e, st, h => by
    simp only [chkS] at h
    split at h
    · simp only [Bool.and_eq_true, Bool.not_eq_true'] at h
      obtain ⟨v1, v2, v3, v4⟩ := chkV_ok h.1.1.2
      rw [z_setI]
      exact st_setI B.g v1 v2 v3 v4 h.1.1.1.2 ((chkE_ok k X _ B).1 h.1.2) ((chkE_ok e X _ B).1 h.2) (sw_not h.1.1.1.1 _ _ _) (ss_sub _ _ _ _ _)
    · cases h
  | .app i e, st, h => by
    simp only [chkS] at h
    split at h
    · simp only [Bool.and_eq_true, beq_iff_eq] at h
      obtain ⟨⟨⟨⟨h1, h2⟩, h3⟩, h4⟩, h5⟩ := h
      subst h1
      obtain ⟨v1, v2, v3, v4⟩ := chkV_ok h2
      rw [z_app]
      exact st_app B.g v1 v2 v3 v4 ((chkE_ok e X _ B).1 h5) (noStar_ok h3) (by rw [h4]; exact beq_self_eq_true _)
    · cases h
  | .expr e, st, h => by
    simp only [chkS] at h
    split at h
    · simp only [Bool.and_eq_true, Bool.not_eq_true'] at h
      rw [z_expr]
      exact st_expr ((chkE_ok e X _ B).1 h.2) (sw_not h.1 _ _ _)
    · cases h
  | .iff c a b, st, h => by
    simp only [chkS] at h
    split at h
    · simp only [Bool.and_eq_true] at h
      rw [z_iff]
      exact st_if ((chkE_ok c X _ B).1 h.1.1) (chkSs_ok B hfn a _ h.1.2) (chkSs_ok B hfn b _ h.2)
    · cases h
  | .whl c b, st, h => by
    simp only [chkS] at h
    split at h
    · simp only [Bool.and_eq_true] at h
      rw [z_whl]
      exact st_whl B.g ((chkE_ok c X _ B).1 h.1) (chkSs_ok B hfn b _ h.2)
    · cases h
  | .forr g it b, st, h => by
    simp only [chkS] at h
    split at h
    · simp only [Bool.and_eq_true] at h
      rw [z_for]
      exact st_for B.g ((chkE_ok it X _ B).2 true _ h.1.2 h.1.1.2) (chkG_ok B.g (fun _ => hfn) g _ h.1.1.1.1) (chkSs_ok B hfn b _ h.2) (fold_ok h.1.1.1.2 _)
    · cases h
  | .ret e, st, h => by
    simp only [chkS] at h
    split at h
    · rw [z_ret]
      exact st_ret ((chkE_ok e X _ B).1 h)
    · cases h
  | .retN, st, h => by
    simp only [chkS] at h
    split at h
    · rw [z_retN]; exact st_retN
    · cases h
  | .brk, st, h => by
    simp only [chkS] at h
    split at h
    · rw [z_brk]; exact st_brk
    · cases h
  | .cnt, st, h => by
    simp only [chkS] at h
    split at h
    · rw [z_cnt]; exact st_cnt
    · cases h
  | .pass, st, h => by
    simp only [chkS] at h
    split at h
    · rw [z_pass]; exact st_pass
    · cases h
  | .rais, st, h => by
    rw [z_rais]; exact st_stuck
  | .par i j a b, st, h => by
    simp only [chkS] at h
    split at h
    · simp only [Bool.and_eq_true, Bool.not_eq_true', decide_eq_true_eq, decide_eq_false_iff_not] at h
      obtain ⟨⟨⟨⟨⟨⟨⟨⟨⟨⟨⟨⟨⟨h1, h2⟩, h3⟩, h4⟩, h5⟩, h6⟩, h7⟩, h8⟩, h9⟩, h10⟩, h11⟩, h12⟩, h13⟩, h14⟩ := h
      rw [z_par]
      exact st_par B.g h1 h2 h3 (isL_ok h4) (isL_ok h5) ((chkE_ok a X _ B).1 h13) ((chkE_ok b X _ B).1 h14) (noStar_ok h8) (noStar_ok h9) (ss_par (isFun_ok h10) (isL_ok h4) (isL_ok h5) h6 h7 h8 h9 h11 h12)
    · cases h
  | .aug i .add e, st, h => by
    simp only [chkS] at h
    split at h
    · simp only [Bool.and_eq_true, decide_eq_true_eq] at h
      obtain ⟨l1, l2⟩ := locFn (fc := true) (fun _ => hfn) h.1.2
      rw [z_aug]
      exact st_augA B.g.nd h.1.1 l1 l2 ((chkE_ok e X _ B).1 h.2)
    · cases h
  | .aug i .sub e, st, h => by
    simp only [chkS] at h
    split at h
    · simp only [Bool.and_eq_true, decide_eq_true_eq] at h
      obtain ⟨l1, l2⟩ := locFn (fc := true) (fun _ => hfn) h.1.2
      rw [z_aug]
      exact st_augS B.g.nd h.1.1 l1 l2 ((chkE_ok e X _ B).1 h.2)
    · cases h
  | .aug _ .mul _, st, h => by simp [chkS] at h
  | .aug _ .fdiv _, st, h => by simp [chkS] at h
  | .aug _ .mod _, st, h => by simp [chkS] at h
  | .aug _ .pow _, st, h => by simp [chkS] at h
  | .augF _ _ _ _, st, h => by simp [chkS] at h
  | .ext i e, st, h => by
    simp only [chkS] at h
    split at h
    · simp only [Bool.and_eq_true, beq_iff_eq] at h
      obtain ⟨⟨⟨⟨h1, h2⟩, h3⟩, h4⟩, h5⟩ := h
      subst h1
      obtain ⟨v1, v2, v3, v4⟩ := chkV_ok h2
      rw [z_ext]
      exact st_ext B.g v1 v2 v3 v4 ((chkE_ok e X _ B).1 h5) (noStar_ok h3) (by rw [h4]; exact beq_self_eq_true _)
    · cases h
  | .popS g i none, st, h => by
    simp only [chkS] at h
    split at h
    · simp only [Bool.and_eq_true, beq_iff_eq] at h
      obtain ⟨⟨⟨⟨h1, h2⟩, h3⟩, h4⟩, h5⟩ := h
      subst h1
      obtain ⟨v1, v2, v3, v4⟩ := chkV_ok h2
      rw [z_pop0]
      exact st_pop0 B.g v1 v2 v3 v4 (by rw [h3]; exact beq_self_eq_true _) (chkG_ok B.g (fun _ => hfn) g _ h5) (by rw [sole]; exact sw_not rfl _ _ _) (ss_nt h4 rfl _) (ae_nt h4 _)
    · cases h
  | .popS _ _ (some _), st, h => by simp [chkS] at h
  | .frz _, st, h => by simp [chkS] at h
  | .shr _, st, h => by simp [chkS] at h
theorem chkSs_ok (B : BX Γ T cl ad S X) (hfn : ∀ x, X.fn x = true) : ∀ (ss : List Q.S) (sts : List Stmt), chkSs S X.N X.env.scope ss sts = true → PSs X sts (RS Γ (esL T cl ss))
  | [], sts, h => by
    simp only [chkSs] at h
    cases sts with
    | nil => rw [z_nil]; exact ss_nil
    | cons _ _ => cases h
  | s :: ss, sts, h => by
    by_cases hf : (∃ i, s = .frz i) ∨ ∃ i, s = .shr i
    · rcases hf with ⟨i, rfl⟩ | ⟨i, rfl⟩
      · simp only [chkSs] at h
        rw [z_cons, z_frz]
        exact (chkSs_ok B hfn ss sts h).imp fun D σ H q => frz_read q
      · simp only [chkSs] at h
        rw [z_cons, z_shr]
        exact (chkSs_ok B hfn ss sts h).imp fun D σ H q => shr_read q
    · cases sts with
      | nil =>
        cases s <;> first
          | exact absurd (.inl ⟨_, rfl⟩) hf
          | exact absurd (.inr ⟨_, rfl⟩) hf
          | (simp [chkSs] at h)
      | cons st sts =>
        have h' : (chkS S X.N X.env.scope s st && chkSs S X.N X.env.scope ss sts) = true := by
          cases s <;> first
            | exact absurd (.inl ⟨_, rfl⟩) hf
            | exact absurd (.inr ⟨_, rfl⟩) hf
            | (simp only [chkSs] at h; exact h)
        rw [Bool.and_eq_true] at h'
        rw [z_cons]
        exact ss_cons (chkS_ok B hfn s st h'.1) (chkSs_ok B hfn ss sts h'.2)
end
end
end Q

/-! EvS: defs. -/
namespace Q
open PySem L2

/-! ### a def by its body, where no object's text is being made -/
theorem defG {P : Program} {w : World} {K : PySem.W.Frag} {mg : Str → Option Value} {base : Heap} {k : Nat} {f : Addr} {name qual : Str} {params : Arguments} {body : List Stmt} {scope : Scope} {dV kV doc pm cdv ct oc : Value} {an od : Option Addr}
    {osl : Array (Option Value)} {N ps : List Str} {sp : List V → Hp → VK → Prop} (lk : K.lookup f = some ⟨oc, od, .func (PySem.W.fnOf name qual params body scope dV kV doc pm an cdv ct), osl⟩) (hcd : PySem.W.codeIn K cdv qual = true) (S : FnScope N ps scope)
    (len : ∀ vs H Q, sp vs H Q → vs.length = ps.length)
    (hbody : ∀ (A : Around) (outer : List PySem.Env) (s : Shared) (H : Hp) (vs : List V) (Q : VK), Room k (A.deeper (PyProof.Rows.envOfC qual scope s.heap.objs.size f cdv)) → A.handled = none → A.guards = some [] → sp vs H Q →
      ∃ t, PSs (cxOf CXn P w K mg base N qual scope f cdv A outer s H En).nox body t ∧ t { nx := fun _ H' => Q .non H', rt := Q } (L2.start N vs) H) :
    FnG P w K mg base (k + 1) f (PySem.W.fnOf name qual params body scope dV kV doc pm an cdv ct) ps sp := by
  refine ⟨len, fun A outer s H args us vs Q hr hg e0 hb r hsp => ?_⟩
  have hl := len _ _ _ hsp
  have KX : K.In s.heap := e0.mod.kin.keeps fun b o e => (e0.bs b o e).1
  have lim : s.heap.NoLimit := e0.mod.nolimit.keeps fun b o e => (e0.bs b o e).1
  have hkind : ∀ y ∈ ps.zip us, scope.names.lookup y.1 = some .local ∨ (scope.names.lookup y.1 = some .cell ∧ ((cellsFrom (s.heap.objs.size + 1) scope.names []).lookup y.1).isSome = true) := fun ⟨n, v⟩ hy =>
    (S.par n (List.of_mem_zip hy).1).imp id fun q => ⟨q, PySem.W.cellsFrom_some _ _ _ (.inl q)⟩
  refine codeAny_call_function hr.depth (KX _ _ lk) rfl S.co S.gen rfl (PySem.W.codeRec_of KX hcd) (hb _ _ _ _ ?_)
  refine wpAny_newFunctionEnv_cells S.kind hkind fun env he s1 x => ?_
  subst he
  refine ⟨lim.keeps x.toInCall.keep, codeAny_func ?_⟩
  obtain ⟨t, ht, hq⟩ := hbody A outer s H vs Q (hr.deeper _) hr.hd hg hsp
  have I : Inv (cxOf CXn P w K mg base N qual scope f cdv A outer s H En) [] (L2.start N vs) H s1 := inv_start S hr.hd e0 hl r x
  refine wpAny_mono (ht.nox.run [] s1 (L2.start N vs) H _ I hq) (fun fl s' hs => ?_) fun e s' hs => hs
  match fl, hs with
  | .ret u, ⟨v, σ', H', J, rv, q⟩ => exact ⟨v, H', J.os, J.bare, J.base, J.hok, rv, q⟩
  | .next, ⟨σ', H', J, q⟩ => exact ⟨.non, H', J.os, J.bare, J.base, J.hok, rfl, q⟩
  | .brk, ⟨_, _, _, q⟩ => exact q.elim
  | .cont, ⟨_, _, _, q⟩ => exact q.elim

/-! ### what is known of the text's objects -/
/-- the def of st stands at ad -/
structure FnFact (K : PySem.W.Frag) (ad : Addr) (st : Stmt) (ps : List Str) (ko : Bool) : Prop where
  lk : ∃ (oc : Value) (od : Option Addr) (x qual : Str) (kV doc pm : Value) (an : Option Addr) (cdv ct : Value) (osl : Array (Option Value)),
    K.lookup ad = some ⟨oc, od, .func (PySem.W.fnOf x qual (defArgs st) (defBody st) (defScope st) .none kV doc pm an cdv ct), osl⟩ ∧ PySem.W.codeIn K cdv qual = true ∧
    (ko = false → ∀ us : List Value, us.length = ps.length → bindArgs (PySem.W.fnOf x qual (defArgs st) (defBody st) (defScope st) .none kV doc pm an cdv ct) ⟨us, []⟩ = pure (ps.zip us))
  kp : PySem.W.keepIn K (.ref ad) = true
def fnScC (N P : List Str) (sc : Scope) : Bool :=
  (match sc.kind with | .function => true | _ => false) && !sc.isCoroutine && !sc.isGenerator && decide N.Nodup && decide (N.take P.length = P) &&
    P.all (fun x => match sc.names.lookup x with | some .local => true | some .cell => true | _ => false) && sc.names.all (fun y => match y.2 with | .free => false | _ => true)
theorem fnScC_ok {N P : List Str} {sc : Scope} (h : fnScC N P sc = true) : FnScope N P sc := by
  unfold fnScC at h
  simp only [Bool.and_eq_true, Bool.not_eq_true', decide_eq_true_eq, List.all_eq_true] at h
  obtain ⟨⟨⟨⟨⟨⟨h1, h2⟩, h3⟩, h4⟩, h5⟩, h6⟩, h7⟩ := h
  refine ⟨?_, h2, h3, h4, h5, fun x hx => ?_, fun y hy e => ?_⟩
  · split at h1
    · assumption
    · cases h1
  · have := h6 x hx
    split at this
    · rename_i e; exact .inl e
    · rename_i e; exact .inr e
    · cases this
  · have := h7 y hy
    rw [e] at this
    cases this
def isDoc : Stmt → Bool
  | .Expr (.Constant (.str _) _ _) _ => true
  | _ => false
def noDoc : List Stmt → List Stmt
  | st :: sts => if isDoc st then sts else st :: sts
  | [] => []
def chkFd (S : SE) (fd : Fd) (N : List Str) (st : Stmt) : Bool :=
  fnScC N (N.take fd.np) (defScope st) && decide (N.length = fd.ns) && decide (fd.np ≤ N.length) && chkSs S N (defScope st) fd.body (noDoc (defBody st))
theorem doc_ok {Γ : Gam} {X : Cx} {ev : EVS} {sts : List Stmt} (h : PSs X (noDoc sts) (RS Γ ev)) : PSs X sts (RS Γ ev) := by
  cases sts with
  | nil => exact h
  | cons st sts =>
    have h : PSs X (if isDoc st = true then sts else st :: sts) (RS Γ ev) := h
    by_cases c : isDoc st = true
    · rw [if_pos c] at h
      unfold isDoc at c
      split at c
      · exact (pss_cons (ps_doc) h).imp fun D σ H q => q
      · cases c
    · rw [if_neg c] at h; exact h

/-- the text's table and its objects -/
structure TX (Γ : Gam) (T : Tab) (ad : Nat → Addr) (S : SE) (mg : Str → Option Value) (nN : Nat → List Str) (st : Nat → Stmt) (w : World) : Prop where
  t : Q.TG Γ T
  fact : ∀ f fd, T.fn f = some fd → FnFact Γ.K (ad f) (st f) ((nN f).take fd.np) (T.ko f) ∧ chkFd S fd (nN f) (st f) = true
  kc : ∀ C f, T.ini C = some f → Mk Γ.K (Γ.cl C) (ad f) ∧ (T.fn f).isSome = true
  mt : ∀ C m f, T.mt C m = some f → Cls Γ.K (Γ.cl C) ∧ Meth Γ.K (Γ.cl C) (Γ.nm m) (ad f) ∧ (T.fn f).isSome = true ∧ T.ko f = false
  fn : ∀ x f, S.fn.lookup x = some f → mg x = some (.ref (ad f)) ∧ (T.fn f).isSome = true ∧ T.ko f = false
  kw : S.kw = T.kw
  ko : ∀ C, S.ko.contains C = false → ∀ f, T.ini C = some f → T.ko f = false
  kwf : ∀ C np ks pat f fd, (C, np, ks, pat) ∈ T.kw → T.ini C = some f → T.fn f = some fd → ∀ fdat oc od osl, Γ.K.lookup (ad f) = some ⟨oc, od, .func fdat, osl⟩ →
    ∃ (mv : List Value) (pv : List V), KBn Γ.K fdat ((nN f).take fd.np) (np + 1) ks (fun us ws => us ++ fillG pat mv ws) (fun vs zs => vs ++ fillG pat pv zs) ∧ ∀ w, WOK Γ w → Reps Γ w (pat.filterMap id) pv
  fk : ∀ x f, S.fk.lookup x = some f → mg x = some (.ref (ad f)) ∧ (T.fn f).isSome = true
  kf : S.kf = T.kf
  kff : ∀ f np ks pat fd, (f, np, ks, pat) ∈ T.kf → T.fn f = some fd → ∀ fdat oc od osl, Γ.K.lookup (ad f) = some ⟨oc, od, .func fdat, osl⟩ →
    ∃ (mv : List Value) (pv : List V), KBn Γ.K fdat ((nN f).take fd.np) np ks (fun us ws => us ++ fillG pat mv ws) (fun vs zs => vs ++ fillG pat pv zs) ∧ ∀ w, WOK Γ w → Reps Γ w (pat.filterMap id) pv
  cls : ∀ x C, S.cl.lookup x = some C → mg x = some (.ref (Γ.cl C))
  ct : ∀ C, S.ct.contains C = true → T.cc C = true
  bt : ∀ x, S.bt.contains x = true → mg x = none
  gc : ∀ x c, S.gc.lookup x = some c → ∃ v u, mg x = some u ∧ RelV v u ∧ ∀ w, WOK Γ w → Rep Γ w c v
  nm : S.nm = Γ.nm
  ds : ∀ D tb, S.ds.lookup D = some tb → ∃ p, mg D = some (.ref p) ∧ ∀ s f, tb.lookup s = some f → KDct Γ.K w p s (.ref (ad f)) ∧ (T.fn f).isSome = true ∧ T.ko f = false
section
variable {Γ : Gam} {T : Tab} {ad : Nat → Addr} {S : SE} {mg : Str → Option Value} {nN : Nat → List Str} {st : Nat → Stmt} {P : Program} {w : World} {base : Heap}
/-- all defs, so deep -/
def AllG (Γ : Gam) (T : Tab) (ad : Nat → Addr) (mg : Str → Option Value) (nN : Nat → List Str) (P : Program) (w : World) (base : Heap) (d : Nat) : Prop := ∀ f fd, T.fn f = some fd →
  ∃ fdat, FnG P w Γ.K mg base (2 * d) (ad f) fdat ((nN f).take fd.np) (spC Γ (evC T d f) fd.np) ∧ (T.ko f = false → Binds Γ.K fdat ((nN f).take fd.np) []) ∧ ∃ oc od osl, Γ.K.lookup (ad f) = some ⟨oc, od, .func fdat, osl⟩
theorem start_ok {w : Wd} {N : List Str} {xs : List MV} {vs : List V} {ns : Nat} (hn : N.length = ns) (hl : xs.length ≤ ns) (r : Reps Γ w xs vs) (hO : ∀ a, ¬ w.O a) : LOK Γ w (Q.start ns xs) (L2.start N vs) := by
  have g1 : ∀ (i : Nat) (x : SV), (Q.start ns xs)[i]? = some (some x) → ∃ m, x = SV.v m ∧ xs[i]? = some m := fun i x e => by
    unfold Q.start at e
    by_cases c : i < xs.length
    · rw [List.getElem?_append_left (by simpa using c), List.getElem?_map] at e
      cases h : xs[i]? with
      | none => rw [h] at e; cases e
      | some m => rw [h] at e; cases e; exact ⟨m, rfl, rfl⟩
    · rw [List.getElem?_append_right (by simpa using c), List.getElem?_replicate] at e
      split at e <;> cases e
  have hown : ∀ i, ¬ Own (Q.start ns xs) i := fun i h => by
    rcases h with ⟨ys, h⟩ | ⟨t, kvs, h⟩
    · obtain ⟨m, e, _⟩ := g1 i _ h; cases e
    · obtain ⟨m, e, _⟩ := g1 i _ h; cases e
  refine ⟨?_, fun i m e => ?_, fun i ys e => absurd (.inl ⟨ys, e⟩) (hown i), fun i t kvs e => absurd (.inr ⟨t, kvs, e⟩) (hown i), fun i ys e => ?_, fun i j a _ h => absurd h (hown i)⟩
  · unfold Q.start L2.start
    rw [List.length_append, List.length_append, List.length_map, List.length_map, List.length_replicate, List.length_replicate, ← r.length, hn]
  · obtain ⟨m', e1, e2⟩ := g1 i _ e
    cases e1
    obtain ⟨v, e3, rv⟩ := r.get e2
    refine ⟨v, ?_, rv⟩
    have hi := (List.getElem?_eq_some_iff.mp e3).1
    unfold L2.start
    rw [List.getElem?_append_left (by simpa using hi), List.getElem?_map, e3]
    rfl
  · obtain ⟨m, e1, _⟩ := g1 i _ e; cases e1
theorem callX_of (tx : TX Γ T ad S mg nN st w) {d : Nat} (h : AllG Γ T ad mg nN P w base d) {A : Around} (hr : Room (2 * d + 1) A) (hg : A.guards = some []) : CallOk Γ P w Γ.K mg base A T (evC T d) ad := by
  refine ⟨?_, ?_, ?_, ?_, fun f hf => ?_, fun C hC => ?_, fun C m f e => ⟨(tx.mt C m f e).1, (tx.mt C m f e).2.1⟩⟩
  · rintro X rfl rfl hK rfl rfl rfl f xs z w' M' e hko pins σ s vs us Q I k r rv q
    cases d with
    | zero => cases e
    | succ d =>
      have e0 := e
      unfold evC at e
      split at e
      · rename_i fd ef
        obtain ⟨hn, e⟩ := ite_ok e
        obtain ⟨fdat, F, B, _⟩ := h f fd ef
        rw [← hK] at F B
        exact run_spC F (hr.mono (by omega)) hg (B hko) I k r rv hn e0 q
      · cases e
  · rintro X rfl rfl hK rfl rfl rfl C f xs w' M' ei hko e pins σ s vs us Q I k r rv q
    cases d with
    | zero => cases e
    | succ d =>
      have e0 := e
      unfold evC at e
      split at e
      · rename_i fd ef
        obtain ⟨hn, e⟩ := ite_ok e
        obtain ⟨fdat, F, B, _⟩ := h f fd ef
        rw [← hK] at F B
        exact make_spC (by rw [hK]; exact (tx.kc C f ei).1) F hr hg (B hko) I k r rv (by rw [← hn]; rfl) e0 q
      · cases e
  · rintro X rfl rfl hK rfl rfl rfl C f np ks pat xs ys w' M' hkw ei e hn1 hn2 pins σ s vs us zs ws Q I k r rv ry rz q
    cases d with
    | zero => cases e
    | succ d =>
      have e0 := e
      unfold evC at e
      split at e
      · rename_i fd ef
        obtain ⟨hn, e⟩ := ite_ok e
        obtain ⟨fdat, F, B, oc, od, osl, lk⟩ := h f fd ef
        obtain ⟨mv, pv, KB, rp⟩ := tx.kwf C np ks pat f fd hkw ei ef fdat oc od osl lk
        rw [← hK] at F KB
        exact make_spCK (by rw [hK]; exact (tx.kc C f ei).1) F hr hg KB I k r rv ry rz rp hn1 hn2 (by rw [← hn]; rfl) e0 q
      · cases e
  · rintro X rfl rfl hK rfl rfl rfl f np ks pat xs ys z w' M' hkw e hn1 hn2 pins σ s vs us zs ws Q I k r rv ry rz q
    cases d with
    | zero => cases e
    | succ d =>
      have e0 := e
      unfold evC at e
      split at e
      · rename_i fd ef
        obtain ⟨hn, e⟩ := ite_ok e
        obtain ⟨fdat, F, B, oc, od, osl, lk⟩ := h f fd ef
        obtain ⟨mv, pv, KB, rp⟩ := tx.kff f np ks pat fd hkw ef fdat oc od osl lk
        rw [← hK] at F KB
        exact run_spCK F (hr.mono (by omega)) hg KB I k r rv ry rz rp hn1 hn2 hn e0 q
      · cases e
  · cases hh : T.fn f with
    | none => rw [hh] at hf; cases hf
    | some fd => exact (tx.fact f fd hh).1.kp
  · cases hh : T.ini C with
    | none => rw [hh] at hC; cases hC
    | some f => exact (tx.kc C f hh).1.kp
theorem allG (tx : TX Γ T ad S mg nN st w) : ∀ d, AllG Γ T ad mg nN P w base d
  | 0, f, fd, ef => by
    obtain ⟨⟨⟨oc, od, x, qual, kV, doc, pm, an, cdv, ct, osl, lk, hcd, hb⟩, kp⟩, hc⟩ := tx.fact f fd ef
    refine ⟨_, ⟨fun vs H Q h => ?_, fun A outer s H args us vs Q hr hg e0 hbt r h => ?_⟩, fun hko => .all (hb hko), _, _, _, lk⟩
    · unfold chkFd at hc
      simp only [Bool.and_eq_true, decide_eq_true_eq] at hc
      rw [h.1, List.length_take]; omega
    · obtain ⟨_, w', xs, z, M', _, _, _, _, e, _⟩ := h
      cases e
  | d + 1, f, fd, ef => by
    obtain ⟨⟨⟨oc, od, x, qual, kV, doc, pm, an, cdv, ct, osl, lk, hcd, hb⟩, kp⟩, hc⟩ := tx.fact f fd ef
    unfold chkFd at hc
    simp only [Bool.and_eq_true, decide_eq_true_eq] at hc
    obtain ⟨⟨⟨h1, h2⟩, h3⟩, h4⟩ := hc
    refine ⟨_, defG (k := 2 * d + 1) lk hcd (fnScC_ok h1) (fun vs H Q h => by rw [h.1, List.length_take]; omega) (fun A outer s H vs Q hr hh hg h => ?_), fun hko => .all (hb hko), _, _, _, lk⟩
    obtain ⟨hl, w', xs, z, M', rfl, k, nO, rx, e, q⟩ := h
    have hu := hr.un
    have gd : Gd Γ (cxOf CXn P w Γ.K mg base (nN f) qual (defScope (st f)) (ad f) cdv A outer s w'.H En).nox := ⟨rfl, rfl, (fnScC_ok h1).nd, by show (A.deeper _).units + 70 < cLine; omega, hg, rfl⟩
    have B : BX Γ T (evC T d) ad S (cxOf CXn P w Γ.K mg base (nN f) qual (defScope (st f)) (ad f) cdv A outer s w'.H En).nox :=
      ⟨gd, callX_of tx (allG tx d) hr hg, tx.t, tx.fn, tx.cls, tx.ct, tx.bt, tx.gc, tx.nm, fun C m f e => (tx.mt C m f e).2.2, tx.kw, tx.ko, tx.fk, tx.kf, tx.ds⟩
    refine ⟨_, doc_ok (chkSs_ok B (fun _ => rfl) fd.body _ h4), ?_⟩
    unfold evC at e
    rw [ef] at e
    obtain ⟨hn, e⟩ := ite_ok e
    obtain ⟨⟨o, ρ'⟩, M1, e1, e2⟩ := bind_ok e
    refine ⟨w', _root_.Q.start fd.ns xs, o, ρ', M1, rfl, k, start_ok h2 (by omega) rx nO, e1, ?_⟩
    have fin : ∀ w2 u, LeS w' w2 → WOK Γ w2 → w2.M = M1 → Rep Γ w2 z u → M1 = M' → Q u w2.H := fun w2 u l2 k2 em r2 eM => by
      have k3 := Wd.noO k2
      refine q { w2 with O := fun _ => False } u ⟨⟨fun a ho ha hm => l2.le.keep a ho ha fun z => z.elim hm (nO a), l2.le.F, fun a ha => (l2.le.Fm a ha).elim .inl fun z => z.elim (fun z => .inr (.inl z)) fun z => z.elim (fun z => .inr (.inr z)) fun z => absurd z (nO a),
        fun a ha => (l2.le.al a ha).elim .inl fun z => z.elim .inr fun z => absurd z (nO a), l2.le.μ, l2.le.nx, l2.le.tr⟩, by funext a; exact propext ⟨fun z => z.elim, fun z => nO a z⟩⟩ k3 (em.trans eM) (r2.stay (stayO w2 _))
    cases o with
    | ret v => cases e2; exact fun w2 u l2 k2 em r2 => fin w2 u l2 k2 em r2 rfl
    | nx => cases e2; exact fun w2 σ' l2 k2 em _ => fin w2 .non l2 k2 em .non rfl
    | brk => cases e2
    | ct => cases e2
end
end Q

/-! EvT: the law's own call, the end. -/
namespace Q
open PySem L2
open PySem.OldK in
/-- the law's call, where its def's promise is known at the caller's own place -/
theorem lawG {P : Program} {w : World} {K : PySem.W.Frag} {mg mb : Str → Option Value} {k : Nat} {fa a : Addr} {fd : FuncData} {x : Str} {sp : List V → Hp → VK → Prop} {s₁ : Shared} {vs : List Value} {ns : List Int}
    (KX : K.In s₁.heap) (hns : s₁.heap.Ns mainGlobals mg) (hb : s₁.heap.Ns builtinsNs mb) (hbb : ∀ x : Str, x ≠ "__name__" → mb x = bootBuiltins x) (hlim : s₁.heap.NoLimit) (hg : s₁.gens = #[])
    (ha : s₁.heap.get? a = some { cls := .type "list", data := .seq vs.toArray }) (hi : PyProof.Rows.IntsAre vs ns) (hl : ns.length ≤ sizeLine) (hr : Room k callerA)
    (F : ∀ base : Heap, K.In base → base.Ns mainGlobals mg → FnG P w K mg base k fa fd [x] sp) (hbind : ∀ (s : Shared) (u : Value), BindsTo s fd ⟨[u], []⟩ [(x, u)])
    (hsp : ∀ H : Hp, (∀ b, b ≠ a → H b = none) → (∃ o, H a = some (.frz o (.lst (ns.map V.int)))) ∨ (∃ (o : Obj) (its : Array Value) (n : Nat), K.lookup a = some o ∧ o.cls = .type "list" ∧ o.dict = none ∧ o.data = .seq its n ∧ its.size ≤ sizeLine ∧ Vals (ns.map V.int) its.toList) → sp [.ref a] H (fun v _ => v = .bl true)) :
    codeAny (model P w) callerA (.call (.ref fa) ⟨[.ref a], []⟩) (fun r s' => r = .ok (.ret (.bool true)) ∧ PySem.OldK s₁.heap s'.heap ∧ s'.os = s₁.os ∧ PyProof.Rows.AllBare s'.gens) s₁ := by
  have rv := vals_ints hi
  have lenV := hi.length
  have core : ∀ H : Hp, (∀ b, b ≠ a → H b = none) → (∀ u, H a = some u → K.lookup a = none ∧ ∃ o, u = .frz o (.lst (ns.map V.int)) ∧ s₁.heap.get? a = some o) → sp [.ref a] H (fun v _ => v = .bl true) →
      codeAny (model P w) callerA (.call (.ref fa) ⟨[.ref a], []⟩) (fun r s' => r = .ok (.ret (.bool true)) ∧ PySem.OldK s₁.heap s'.heap ∧ s'.os = s₁.os ∧ PyProof.Rows.AllBare s'.gens) s₁ := by
    intro H hHn hHa hs
    have hA : ∀ b u, H b = some u → b = a := fun b u h => Decidable.byContradiction fun z => by rw [hHn b z] at h; cases h
    have hok : HOk P w H s₁.heap := fun b u e => by
      have eb := hA b u e
      subst eb
      obtain ⟨_, o, rfl, ho⟩ := hHa u e
      exact ⟨ho, by rw [List.length_map]; exact hl, vs, _, rv, ha⟩
    have base_of : ∀ {b : Addr} {o : Obj}, s₁.heap.get? b = some o → H b = none → (hidT s₁.heap H).get? b = some o := fun e n => hidT_get e n
    have notA : ∀ {b : Addr} {o : Obj} {es : Array DictEntry} {ep : Nat}, s₁.heap.get? b = some o → o.data = .dict es ep → H b = none := fun {b o es ep} e d => hHn b fun z => by
      subst z
      rw [ha] at e
      cases e
      exact nomatch (show Data.seq vs.toArray _ = Data.dict es ep from d)
    have nsK : ∀ {b : Addr} {m : Str → Option Value}, s₁.heap.Ns b m → (hidT s₁.heap H).Ns b m := fun {b m} ⟨o, es, ep, e, d, r⟩ => ⟨o, es, ep, base_of e (notA e d), d, r⟩
    have hKb : K.In (hidT s₁.heap H) := fun b o e => base_of (KX b o e) (by
      cases q : H b with
      | none => rfl
      | some u =>
        have eb := hA b u q
        subst eb
        rw [(hHa u q).1] at e; cases e)
    have hM : L2.Mod K mg (hidT s₁.heap H) := ⟨hKb, nsK hns, ⟨mb, nsK hb, hbb⟩, let ⟨mc, h1, h2⟩ := hlim; ⟨mc, nsK h1, h2⟩⟩
    have e0 : Env0 P w K mg (hidT s₁.heap H) callerA [] s₁ H := ⟨rfl, hM, fun b o e => of_hidT e, Nat.le_of_eq (hidT_size _ _), trivial, fun b hb => absurd (show b ∈ ([] : List Addr) from hb) (by simp), hok, .of_eq hg⟩
    refine codeAny_mono ((F _ hKb (nsK hns)).run callerA [] s₁ H ⟨[.ref a], []⟩ [.ref a] [.ref a] _ hr rfl e0 (hbind s₁ (.ref a)) (.cons rfl .nil) hs) fun r s' h => ?_
    match r, h with
    | .error e, h => exact h.elim
    | .ok (.ret u), ⟨v, H', os, bare, un, hok', r', q⟩ =>
      have q' : v = .bl true := q
      subst q'
      obtain rfl : u = Value.bool true := r'
      refine ⟨rfl, PySem.OldK.of_keep fun b o e => ?_, os, bare⟩
      cases q : H b with
      | none => exact un.keep b o e q (by intro z; exact absurd (show b ∈ ([] : List Addr) from z) (by simp)) (by simp)
      | some u =>
        have eb := hA b u q
        subst eb
        obtain ⟨_, ob, rfl, ho⟩ := hHa u q
        have z2 := un.frzs b ob _ q
        obtain ⟨e2, _⟩ := hok' b _ z2
        rw [ho] at e
        cases e
        exact e2
  cases hk : K.lookup a with
  | some o =>
    have e := KX a o hk
    rw [ha] at e
    cases e
    refine core (fun _ => none) (fun _ _ => rfl) (fun u z => nomatch z) (hsp _ (fun _ _ => rfl) (.inr ⟨_, vs.toArray, _, hk, rfl, rfl, rfl, by rw [List.size_toArray, lenV]; exact hl, by simpa using rv⟩))
  | none =>
    have e1 : (fun b => if b = a then some (HO.frz { cls := .type "list", data := .seq vs.toArray } (.lst (ns.map V.int))) else none) a = some (HO.frz { cls := .type "list", data := .seq vs.toArray } (.lst (ns.map V.int))) := if_pos rfl
    exact core (fun b => if b = a then some (.frz { cls := .type "list", data := .seq vs.toArray } (.lst (ns.map V.int))) else none) (fun b h => if_neg h) (fun u z => by have z' := e1.symm.trans z; cases z'; exact ⟨hk, _, rfl, ha⟩) (hsp _ (fun b h => if_neg h) (.inl ⟨_, e1⟩))

def KLk (K : PySem.W.Frag) (a : Addr) (vs : List V) : Prop :=
  ∃ (o : Obj) (its : Array Value) (n : Nat), K.lookup a = some o ∧ o.cls = .type "list" ∧ o.dict = none ∧ o.data = .seq its n ∧ its.size ≤ sizeLine ∧ Vals vs its.toList
/-- the law's promise -/
def spLaw (K : PySem.W.Frag) (n : Nat) : List V → Hp → VK → Prop := fun vs H Q => ∃ a ns, vs = [.ref a] ∧ List.length ns ≤ n ∧ (∀ b, b ≠ a → H b = none) ∧ ((∃ o, H a = some (.frz o (.lst (ns.map V.int)))) ∨ KLk K a (ns.map V.int)) ∧ ∀ H', Q (.bl true) H'
/-- the evaluator's answer is the law's -/
theorem end2 {Γ : Gam} {T : Tab} {ad : Nat → Addr} {S : SE} {mg : Str → Option Value} {nN : Nat → List Str} {st : Nat → Stmt} {P : Program} {w : World} {d f : Nat} {fd : Fd} {x name qual : Str} {params : Arguments} {body : List Stmt} {scope : Scope} {kV doc pm cdv ct oc : Value} {an od : Option Addr} {osl : Array (Option Value)}
    (tx : TX Γ T ad S mg nN st w) (ef : T.fn f = some fd) (hx : (nN f).take fd.np = [x]) (hn : fd.np = 1) {n : Nat}
    (law : ∀ ns : List Int, ns.length ≤ n → ∃ M, evC T d f [.lst .ro (ns.map MV.int)] ⟨0, fun _ => none⟩ = .ok (.bl true) M)
    (lk : Γ.K.lookup (ad f) = some ⟨oc, od, .func (PySem.W.fnOf name qual params body scope .none kV doc pm an cdv ct), osl⟩) (hcd : PySem.W.codeIn Γ.K cdv qual = true)
    (hb : ∀ us : List Value, us.length = 1 → bindArgs (PySem.W.fnOf name qual params body scope .none kV doc pm an cdv ct) ⟨us, []⟩ = pure ([x].zip us)) :
    ∃ fdat : FuncData, (∀ (s : Shared) (v : Value), BindsTo s fdat ⟨[v], []⟩ [(x, v)]) ∧ ∀ base : Heap, Γ.K.In base → base.Ns mainGlobals mg → FnG P w Γ.K mg base (2 * d) (ad f) fdat [x] (spLaw Γ.K n) := by
  refine ⟨PySem.W.fnOf name qual params body scope .none kV doc pm an cdv ct, fun s v => .of_eq (hb [v] rfl), fun base _ _ => ?_⟩
  obtain ⟨fdat, F, B, oc', od', osl', lk'⟩ := allG (P := P) (w := w) (base := base) tx d f fd ef
  rw [hx] at F
  rw [lk] at lk'
  have efd : fdat = PySem.W.fnOf name qual params body scope .none kV doc pm an cdv ct := by
    have := Option.some.inj lk'
    simp only [Obj.mk.injEq, Data.func.injEq] at this
    exact this.2.2.1.symm
  subst efd
  refine ⟨fun vs H Q h => ?_, fun A outer s H args us vs Q hr hg e0 hb r h => F.run A outer s H args us vs Q hr hg e0 hb r ?_⟩
  · obtain ⟨a, ns, rfl, _⟩ := h; rfl
  · obtain ⟨a, ns, rfl, hl, hH, hs, q⟩ := h
    obtain ⟨M, em⟩ := law ns hl
    have hF : ∀ b, (fun b => b = a ∧ H a ≠ none) b → H b ≠ none := fun b h => by rw [h.1]; exact h.2
    refine ⟨hn ▸ rfl, ⟨fun b => b = a ∧ H a ≠ none, fun _ => 0, H, ⟨0, fun _ => none⟩, fun _ => False⟩, [.lst .ro (ns.map MV.int)], .bl true, M, rfl, ⟨hF, fun _ h => h.elim, fun _ _ e => (nomatch e), fun _ _ _ _ e => (nomatch e), fun _ _ e => (nomatch e), fun _ _ h => h, fun _ _ ⟨_, _, e, _⟩ => (nomatch e), fun _ h => h.elim⟩, fun _ h => h, .cons (.lro ?_ (ints_reps ns)) .nil, em, fun w' u _ _ _ ru => ?_⟩
    · rcases hs with ⟨o, h⟩ | h
      · exact .inl ⟨⟨rfl, by rw [h]; exact fun z => (nomatch z)⟩, o, h⟩
      · exact .inr h
    · cases ru; exact q _
theorem walkG {l : PySem.W.OpenLaw} {n k : Nat} {q : Program} {loose : List Str} {XP : (Str → Option Value) → Heap → Prop} {YP : World → Heap → Prop} {d : DefRec} {K : Params → PySem.W.Frag} {x : Str}
    (hn : l.most = some n) (hn2 : n ≤ sizeLine) (hdf : d.params.defaults = []) (hr : Room k callerA) (hY : ∀ (w : World) (h : Heap), YP w h → (K w.params).In h)
    (F : ∀ (w : World) (mg : Str → Option Value) (fa : Addr) (h : Heap), (K w.params).In h → h.Ns mainGlobals mg → mg d.name = some (.ref fa) →
      ∃ fd : FuncData, (∀ (s : Shared) (u : Value), BindsTo s fd ⟨[u], []⟩ [(x, u)]) ∧ ∀ base : Heap, (K w.params).In base → base.Ns mainGlobals mg → FnG l.prog w (K w.params) mg base k fa fd [x] (spLaw (K w.params) n)) :
    PySem.W.WalkO q loose XP YP l.row.toRowW d [] (fun f vs => PySem.call f vs) := by
  refine Att.attach_call hn hdf fun w s₀ s₁ mg mb fa o pm cd doc a vs ns G Y ho hd hcd hmg hobj hints hlen hg => ?_
  have KX := hY w _ Y
  obtain ⟨fd, hb, hF⟩ := F w mg fa _ KX G.T.g hmg
  exact lawG KX G.T.g G.T.b G.T.builtins G.T.nolimit hg hobj hints (Nat.le_trans hlen hn2) hr hF hb fun H hH hS => ⟨a, ns, rfl, hlen, hH, hS, fun _ => rfl⟩
end Q

/-! EvU: lists of facts. -/
namespace Q
open PySem L2
theorem fm_nil {α : Type} {P : α → Prop} : ∀ x ∈ ([] : List α), P x := fun _ h => nomatch h
theorem fm_cons {α : Type} {P : α → Prop} {a : α} {l : List α} (h : P a) (t : ∀ x ∈ l, P x) : ∀ x ∈ a :: l, P x := fun x hx => by
  rcases List.mem_cons.mp hx with rfl | hx
  · exact h
  · exact t x hx
theorem lookup_mem {α β : Type} [BEq α] [LawfulBEq α] {l : List (α × β)} {a : α} {b : β} (h : l.lookup a = some b) : (a, b) ∈ l := by
  induction l with
  | nil => cases h
  | cons p l ih =>
    obtain ⟨a', b'⟩ := p
    rw [List.lookup_cons] at h
    split at h
    · rename_i e
      cases h
      rw [beq_iff_eq] at e
      subst e
      exact List.mem_cons_self ..
    · exact List.mem_cons_of_mem _ (ih h)
def nmOf (L : List (Nat × Str)) (n : Nat) : Str := (L.lookup n).getD ⟨Array.replicate (n + 1000) 0⟩
def okNm (L : List (Nat × Str)) : Bool := decide ((L.map (·.2)).Nodup) && L.all fun p => decide (p.2.cps.size < 1000)
theorem nodup_snd : ∀ {L : List (Nat × Str)}, (L.map (·.2)).Nodup → ∀ {i j : Nat} {s : Str}, (i, s) ∈ L → (j, s) ∈ L → i = j
  | [], _, _, _, _, h, _ => nomatch h
  | p :: L, nd, i, j, s, h1, h2 => by
    rw [List.map_cons, List.nodup_cons] at nd
    rcases List.mem_cons.mp h1 with e1 | h1 <;> rcases List.mem_cons.mp h2 with e2 | h2
    · rw [← e1] at e2; exact (congrArg Prod.fst e2).symm
    · exact absurd (List.mem_map.mpr ⟨_, h2, by rw [← e1]⟩) nd.1
    · exact absurd (List.mem_map.mpr ⟨_, h1, by rw [← e2]⟩) nd.1
    · exact nodup_snd nd.2 h1 h2
theorem nmOf_inj {L : List (Nat × Str)} (h : okNm L = true) : ∀ i j, nmOf L i = nmOf L j → i = j := fun i j e => by
  unfold okNm at h
  rw [Bool.and_eq_true, decide_eq_true_eq] at h
  have hs : ∀ {k : Nat} {s : Str}, L.lookup k = some s → s.cps.size < 1000 := fun hk => of_decide_eq_true (List.all_eq_true.mp h.2 _ (lookup_mem hk))
  unfold nmOf at e
  cases h1 : L.lookup i with
  | none =>
    cases h2 : L.lookup j with
    | none =>
      rw [h1, h2] at e
      have := congrArg (fun s : Str => s.cps.size) e
      simp at this
      exact this
    | some s =>
      rw [h1, h2] at e
      have e' := congrArg (fun s : Str => s.cps.size) e
      have := hs h2
      simp at e'
      omega
  | some s =>
    cases h2 : L.lookup j with
    | none =>
      rw [h1, h2] at e
      have e' := congrArg (fun s : Str => s.cps.size) e
      have := hs h1
      simp at e'
      omega
    | some t =>
      rw [h1, h2] at e
      have e' : s = t := e
      subst e'
      exact nodup_snd h.1 (lookup_mem h1) (lookup_mem h2)
theorem ki_e : ∀ is : List Int, is ≠ [] → ([] : List V) ≠ is.map V.int := fun is hn he => hn (List.map_eq_nil_iff.mp he.symm)
theorem fill_vals : ∀ {p : List (Option MV)} {ms zs : List V} {mv ws : List Value}, Vals ms mv → Vals zs ws → Vals (fillG p ms zs) (fillG p mv ws)
  | [], _, _, _, _, _, _ => .nil
  | none :: p, _, _, _, _, a, .nil => .nil
  | none :: p, _, _, _, _, a, .cons r t => .cons r (fill_vals a t)
  | some _ :: p, _, _, _, _, .nil, b => .nil
  | some _ :: p, _, _, _, _, .cons r t, b => .cons r (fill_vals t b)
theorem vals_app : ∀ {vs : List V} {us : List Value} {zs : List V} {ws : List Value}, Vals vs us → Vals zs ws → Vals (vs ++ zs) (us ++ ws)
  | _, _, _, _, .nil, b => b
  | _, _, _, _, .cons r t, b => .cons r (vals_app t b)
theorem vals_fill {p : List (Option MV)} {vs mz zs : List V} {us mv ws : List Value} (a : Vals vs us) (b : Vals mz mv) (c : Vals zs ws) : Vals (vs ++ fillG p mz zs) (us ++ fillG p mv ws) := vals_app a (fill_vals b c)
/-- a table from lists -/
def tabL (fnL : List (Nat × Fd)) (mtL : List ((Nat × Nat) × Nat)) (iniL : List (Nat × Nat)) (cfL : List (Nat × Nat)) (kwL : List (Nat × Nat × List Str × List (Option MV)) := []) (koL : List Nat := []) (kfL : List (Nat × Nat × List Str × List (Option MV)) := []) : Tab where
  fn := fun n => fnL.lookup n
  mt := fun C m => mtL.lookup (C, m)
  ini := fun C => iniL.lookup C
  glb := fun _ => none
  sub := fun _ _ => false
  cc := fun _ => false
  cf := fun C f => cfL.contains (C, f)
  W := 1000000000000000000000000000000
  kw := kwL
  ko := fun f => koL.contains f
  kf := kfL
/-- all facts together -/
theorem txL {w0 : World} {Γ : Gam} {fnL : List (Nat × Fd)} {mtL : List ((Nat × Nat) × Nat)} {iniL cfL : List (Nat × Nat)} {kwL : List (Nat × Nat × List Str × List (Option MV))} {koL : List Nat} {kfL : List (Nat × Nat × List Str × List (Option MV))} {ad : Nat → Addr} {S : SE} {mg : Str → Option Value} {nN : Nat → List Str} {st : Nat → Stmt}
    (h1 : ∀ p ∈ fnL, FnFact Γ.K (ad p.1) (st p.1) ((nN p.1).take p.2.np) (koL.contains p.1) ∧ chkFd S p.2 (nN p.1) (st p.1) = true)
    (h2 : ∀ p ∈ mtL, Cls Γ.K (Γ.cl p.1.1) ∧ Meth Γ.K (Γ.cl p.1.1) (Γ.nm p.1.2) (ad p.2) ∧ (fnL.lookup p.2).isSome = true ∧ koL.contains p.2 = false)
    (h3 : ∀ p ∈ iniL, Mk Γ.K (Γ.cl p.1) (ad p.2) ∧ (fnL.lookup p.2).isSome = true)
    (h4 : ∀ p ∈ cfL, Cls Γ.K (Γ.cl p.1) ∧ NoAttr Γ.K (Γ.cl p.1) (Γ.nm p.2))
    (h5 : ∀ p ∈ S.fn, mg p.1 = some (.ref (ad p.2)) ∧ (fnL.lookup p.2).isSome = true ∧ koL.contains p.2 = false)
    (h6 : ∀ p ∈ S.cl, mg p.1 = some (.ref (Γ.cl p.2)))
    (h7 : ∀ x ∈ S.bt, mg x = none) (h8 : S.ct = []) (h10 : ∀ p ∈ S.gc, ∃ v u, mg p.1 = some u ∧ RelV v u ∧ ∀ w, WOK Γ w → Rep Γ w p.2 v) (h9 : S.nm = Γ.nm) (h11 : S.kw = kwL) (h12 : ∀ p ∈ iniL, S.ko.contains p.1 = true ∨ koL.contains p.2 = false)
    (h13 : ∀ q ∈ kwL, ∀ f fd, iniL.lookup q.1 = some f → fnL.lookup f = some fd → ∀ fdat oc od osl, Γ.K.lookup (ad f) = some ⟨oc, od, .func fdat, osl⟩ →
      ∃ (mv : List Value) (pv : List V), KBn Γ.K fdat ((nN f).take fd.np) (q.2.1 + 1) q.2.2.1 (fun us ws => us ++ fillG q.2.2.2 mv ws) (fun vs zs => vs ++ fillG q.2.2.2 pv zs) ∧ ∀ w, WOK Γ w → Reps Γ w (q.2.2.2.filterMap id) pv)
    (h16 : ∀ p ∈ S.fk, mg p.1 = some (.ref (ad p.2)) ∧ (fnL.lookup p.2).isSome = true) (h17 : S.kf = kfL)
    (h18 : ∀ q ∈ kfL, ∀ fd, fnL.lookup q.1 = some fd → ∀ fdat oc od osl, Γ.K.lookup (ad q.1) = some ⟨oc, od, .func fdat, osl⟩ →
      ∃ (mv : List Value) (pv : List V), KBn Γ.K fdat ((nN q.1).take fd.np) q.2.1 q.2.2.1 (fun us ws => us ++ fillG q.2.2.2 mv ws) (fun vs zs => vs ++ fillG q.2.2.2 pv zs) ∧ ∀ w, WOK Γ w → Reps Γ w (q.2.2.2.filterMap id) pv)
    (h15 : ∀ q ∈ S.ds, ∃ p, mg q.1 = some (.ref p) ∧ ∀ r ∈ q.2, KDct Γ.K w0 p r.1 (.ref (ad r.2)) ∧ (fnL.lookup r.2).isSome = true ∧ koL.contains r.2 = false) : TX Γ (tabL fnL mtL iniL cfL kwL koL kfL) ad S mg nN st w0 := by
  refine ⟨⟨fun C h => (nomatch h), fun D C h => (nomatch h), fun C f h => ?_⟩, fun f fd e => h1 _ (lookup_mem e), fun C f e => h3 _ (lookup_mem e), fun C m f e => h2 _ (lookup_mem e), fun x f e => h5 _ (lookup_mem e), h11, fun C hC f e => (h12 _ (lookup_mem e)).elim (fun z => by rw [hC] at z; cases z) id, fun C np ks pat f fd hq ei ef => h13 _ hq f fd ei ef, fun x f e => h16 _ (lookup_mem e), h17, fun f np ks pat fd hq ef => h18 _ hq fd ef, fun x C e => h6 _ (lookup_mem e), fun C h => ?_, fun x h => h7 x (by simpa using h), fun x c e => h10 _ (lookup_mem e), h9, fun D tb e => let ⟨p, a, b⟩ := h15 _ (lookup_mem e); ⟨p, a, fun s f e2 => b _ (lookup_mem e2)⟩⟩
  · exact h4 (C, f) (by simpa using (show cfL.contains (C, f) = true from h))
  · rw [h8] at h; cases h
end Q

/-! EvV: runs of the evaluator, told by what they reach. -/
namespace Q
open PySem
def Res.Sat {α : Type} (r : Res α) (P : α → Store → Prop) : Prop := ∃ a M, r = .ok a M ∧ P a M
theorem sat_ok {α : Type} {a : α} {M : Store} {P : α → Store → Prop} (h : P a M) : (Res.ok a M).Sat P := ⟨a, M, rfl, h⟩
theorem sat_bind {α β : Type} {r : Res α} {f : α → Store → Res β} {P : α → Store → Prop} {Q : β → Store → Prop} (h : r.Sat P) (k : ∀ a M, P a M → (f a M).Sat Q) : (r.bind f).Sat Q := by
  obtain ⟨a, M, rfl, p⟩ := h
  exact k a M p
theorem sat_imp {α : Type} {r : Res α} {P Q : α → Store → Prop} (h : r.Sat P) (k : ∀ a M, P a M → Q a M) : r.Sat Q := by
  obtain ⟨a, M, e, p⟩ := h
  exact ⟨a, M, e, k a M p⟩
theorem rb {α β : Type} (a : α) (M : Store) (f : α → Store → Res β) : (Res.ok a M).bind f = f a M := rfl
theorem ro {α : Type} (a : α) (M : Store) : ofO (some a) M = Res.ok a M := rfl
theorem dr_ref {M : Store} {n : Nat} {xs : List MV} (h : M.ob n = some (.lst xs)) : (MV.ref n).dr M = .lst .bw xs := by
  show (match M.ob n with | some (.lst xs) => MV.lst .bw xs | some (.dct t kvs) => .dct .bw t kvs | _ => .ref n) = _
  rw [h]
theorem dr_int (M : Store) (i : Int) : (MV.int i).dr M = .int i := rfl
theorem dr_bl (M : Store) (i : Bool) : (MV.bl i).dr M = .bl i := rfl
theorem dr_str (M : Store) (i : Str) : (MV.str i).dr M = .str i := rfl
theorem dr_non (M : Store) : MV.non.dr M = .non := rfl
theorem dr_tup (M : Store) (xs : List MV) : (MV.tup xs).dr M = .tup xs := rfl
theorem dr_lst (M : Store) (k : Kd) (xs : List MV) : (MV.lst k xs).dr M = .lst k xs := rfl
theorem atM_nat {α : Type} (xs : List α) (k : Nat) : atM xs (k : Int) = xs[k]? := by
  unfold atM
  rw [if_pos (Int.natCast_nonneg k), Int.toNat_natCast]
theorem atM_0 {α : Type} (xs : List α) : atM xs 0 = xs[0]? := atM_nat xs 0
theorem atM_1 {α : Type} (xs : List α) : atM xs 1 = xs[1]? := atM_nat xs 1
theorem atM_2 {α : Type} (xs : List α) : atM xs 2 = xs[2]? := atM_nat xs 2
theorem t_bl (b : Bool) : truth (.bl b) = some b := rfl
theorem fr_int (i : Int) : (MV.int i).frz = some (.int i) := rfl
theorem fr_bl (i : Bool) : (MV.bl i).frz = some (.bl i) := rfl
theorem fr_str (i : Str) : (MV.str i).frz = some (.str i) := rfl
theorem fr_non : MV.non.frz = some .non := rfl
theorem fr_tup (xs : List MV) : (MV.tup xs).frz = some (.tup xs) := rfl
theorem fr_nw (xs : List MV) : (MV.lst .nw xs).frz = some (.lst .fz xs) := rfl
theorem fr_fz (xs : List MV) : (MV.lst .fz xs).frz = some (.lst .fz xs) := rfl
theorem fr_ro (xs : List MV) : (MV.lst .ro xs).frz = some (.lst .ro xs) := rfl
theorem fr_ref (n : Nat) : (MV.ref n).frz = some (.ref n) := rfl
theorem ou_int (i : Int) : (MV.int i).out = .int i := rfl
theorem ou_bl (i : Bool) : (MV.bl i).out = .bl i := rfl
theorem ou_str (i : Str) : (MV.str i).out = .str i := rfl
theorem ou_non : MV.non.out = .non := rfl
theorem ou_tup (xs : List MV) : (MV.tup xs).out = .tup xs := rfl
theorem ou_nw (xs : List MV) : (MV.lst .nw xs).out = .lst .fz xs := rfl
theorem ou_fz (xs : List MV) : (MV.lst .fz xs).out = .lst .fz xs := rfl
theorem ou_bw (xs : List MV) : (MV.lst .bw xs).out = .lst .fz xs := rfl
theorem ou_ref (n : Nat) : (MV.ref n).out = .ref n := rfl
theorem ix_l (k : Kd) (xs : List MV) (i : Int) : idxM (.lst k xs) (.int i) = atM xs i := rfl
theorem ix_t (xs : List MV) (i : Int) : idxM (.tup xs) (.int i) = atM xs i := rfl
theorem b_add (i j : Int) : binM .add (.int i) (.int j) = some (.int (i + j)) := rfl
theorem b_sub (i j : Int) : binM .sub (.int i) (.int j) = some (.int (i - j)) := rfl
theorem b_mul (i j : Int) (h : sm i = true) : binM .mul (.int i) (.int j) = some (.int (i * j)) := by simp [binM, h]
theorem b_mod (i j : Int) (h : 0 < j) : binM .mod (.int i) (.int j) = some (.int (i % j)) := by simp [binM, h]
theorem b_div (i j : Int) (h : 0 < j ∧ j < 18446744073709551616) : binM .fdiv (.int i) (.int j) = some (.int (i / j)) := by simp [binM, h]
theorem b_pow (i : Int) (j : Nat) (h : j ≤ 1000) (hs : sm i = true) : binM .pow (.int i) (.int (j : Nat)) = some (.int (i ^ j)) := by
  simp only [binM]
  rw [if_pos ⟨Int.natCast_nonneg j, by omega, hs⟩, Int.toNat_natCast]
theorem b_pow5 (i : Int) (hs : sm i = true) : binM .pow (.int i) (.int 5) = some (.int (i ^ 5)) := b_pow i 5 (by decide) hs
theorem at_mod {xs : List Int} (h : xs ≠ []) (k : Nat) : ∃ c, c ∈ xs ∧ atM (xs.map MV.int) ((k : Int) % (xs.length : Int)) = some (.int c) := by
  have hl : 0 < xs.length := List.length_pos_iff.mpr h
  have hm : k % xs.length < xs.length := Nat.mod_lt _ hl
  refine ⟨xs[k % xs.length], List.getElem_mem hm, ?_⟩
  rw [show ((k : Int) % (xs.length : Int)) = ((k % xs.length : Nat) : Int) from (Int.natCast_emod k xs.length).symm, atM_nat, List.getElem?_map, List.getElem?_eq_getElem hm]
  rfl
theorem sm_of {i : Int} (h : -18446744073709551616 < i ∧ i < 18446744073709551616) : sm i = true := by unfold sm; simp [h]
theorem l_len (k : Kd) (xs : List MV) : evBi .len [.lst k xs] = some (.int xs.length) := rfl
theorem l_lent (xs : List MV) : evBi .len [.tup xs] = some (.int xs.length) := rfl
theorem get0 (m : MV) (ρ : Env) : getV (some (.v m) :: ρ) 0 = some m := rfl
theorem getS (o : Option SV) (ρ : Env) (i : Nat) : getV (o :: ρ) (i + 1) = getV ρ i := rfl
theorem shp_all : ∀ (n : Nat) (xs : List Int), (xs.map MV.int).all (MV.shp n) = true := fun n xs => by
  rw [List.all_eq_true]; intro x hx; obtain ⟨i, _, rfl⟩ := List.mem_map.mp hx; cases n <;> rfl
theorem shp_ints (k : Kd) (xs : List Int) : MV.shp 60 (.lst k (xs.map .int)) = true := shp_all 59 xs
theorem shp_nil (k : Kd) : MV.shp 60 (.lst k []) = true := rfl
theorem dr_put {M : Store} {n : Nat} {xs : List MV} : (MV.ref n).dr (M.put n (.lst xs)) = .lst .bw xs := dr_ref (if_pos rfl)
theorem ob_put {M : Store} {n : Nat} {o : MObj} : (M.put n o).ob n = some o := if_pos rfl
theorem ob_put' {M : Store} {n m : Nat} {o : MObj} (h : m ≠ n) : (M.put n o).ob m = M.ob m := if_neg h
theorem atK_0 {α : Type} (x : α) (xs : List α) : atK (x :: xs) 0 = some 0 := by unfold atK; simp
theorem atK_2 {α : Type} (x y z : α) (xs : List α) : atK (x :: y :: z :: xs) 2 = some 2 := by unfold atK; simp
theorem rv_pa (k : Kd) (xs : List MV) : Bm.popAt.recv (.lst k xs) = true := rfl
theorem rv_ap (k : Kd) (xs : List MV) : Bm.append.recv (.lst k xs) = true := rfl
theorem pop_0 {M : Store} {n : Nat} {x : MV} {xs : List MV} (h : M.ob n = some (.lst (x :: xs))) : evBm .popAt (.ref n) [.int 0] M = .ok x (M.put n (.lst xs)) := by
  simp only [evBm, h, atK_0]
  rfl
theorem app_r {M : Store} {n : Nat} {y : MV} {xs : List MV} (h : M.ob n = some (.lst xs)) (hz : xs.length < SZ) : evBm .append (.ref n) [y] M = .ok .non (M.put n (.lst (xs ++ [y]))) := by
  simp only [evBm, h]
  rw [if_pos hz]
theorem pyL_nil (xs : List MV) (h : xs ≠ []) : PyData.eqv (.list (MV.pyL xs)) (.list []) = false := by
  cases xs with
  | nil => exact absurd rfl h
  | cons x xs => simp [MV.pyL, PyData.eqv, PyData.eqvAll]
theorem ne_nil (k l : Kd) (xs : List Int) : cmpM .ne (.lst k (xs.map .int)) (.lst l []) = some (!xs.isEmpty) := by
  simp only [cmpM]
  rw [shp_ints, shp_nil]
  show some _ = _
  cases xs with
  | nil => simp [MV.eqv, MV.py, MV.pyL, PyData.eqv, PyData.eqvAll]
  | cons x xs =>
    have := pyL_nil ((x :: xs).map .int) (by simp)
    simp only [MV.eqv, MV.py]
    rw [show MV.pyL [] = [] from rfl, this]
    rfl
theorem map1 {α β : Type} (f : α → β) (a : α) : List.map f [a] = [f a] := rfl
theorem map2 {α β : Type} (f : α → β) (a b : α) : List.map f [a, b] = [f a, f b] := rfl
theorem nx_s (ρ : Env) (M : Store) : nxt (some ρ) M = .ok (.nx, ρ) M := rfl
theorem so_l {ρ : Env} {i : Nat} (xs : List MV) (h : i < ρ.length) : setO ρ i (.lst .nw xs) = some (ρ.set i (some (.ol xs))) := if_pos h
theorem so_d {ρ : Env} {i : Nat} (t : Bool) (xs : List (KY × MV)) (h : i < ρ.length) : setO ρ i (.dct .nw t xs) = some (ρ.set i (some (.od t xs))) := if_pos h
theorem sv_ {ρ : Env} {i : Nat} (u : MV) (h : i < ρ.length) : setV ρ i u = some (ρ.set i (some (.v u))) := if_pos h
theorem bg_ {ρ : Env} {i : Nat} (u : MV) (h : i < ρ.length) : bindG (.nm i) u ρ = some (ρ.set i (some (.v u))) := if_pos h
theorem bg_t (gs : List G) (xs : List MV) (ρ : Env) : bindG (.tup gs) (.tup xs) ρ = bindGs gs xs ρ := by simp only [bindG]
theorem bgs_n (ρ : Env) : bindGs [] [] ρ = some ρ := by simp only [bindGs]
theorem get0o (xs : List MV) (ρ : Env) : getV (some (.ol xs) :: ρ) 0 = some (.lst .bw xs) := rfl
theorem l_abs (i : Int) : evBi .abs [.int i] = some (.int (if i < 0 then -i else i)) := rfl
theorem c_ge (i j : Int) : cmpM .ge (.int i) (.int j) = some (decide (j ≤ i)) := rfl
theorem c_lt (i j : Int) : cmpM .lt (.int i) (.int j) = some (decide (i < j)) := rfl
theorem c_gt (i j : Int) : cmpM .gt (.int i) (.int j) = some (decide (j < i)) := rfl
theorem c_le (i j : Int) : cmpM .le (.int i) (.int j) = some (decide (i ≤ j)) := rfl
theorem sl_l (k : Kd) (xs : List MV) (lo hi : Option Int) : slM (.lst k xs) lo hi = some (.lst .nw (cutM xs lo hi)) := rfl
theorem sl_t (xs : List MV) (lo hi : Option Int) : slM (.tup xs) lo hi = some (.tup (cutM xs lo hi)) := rfl
theorem it_f (xs : List MV) : itemsOf (.lst .fz xs) = some xs := rfl
theorem it_t (xs : List MV) : itemsOf (.tup xs) = some xs := rfl
theorem bi_abs : Bi.abs.it = false := rfl
theorem bi_len : Bi.len.it = false := rfl
theorem szif {α : Type} {n : Nat} {a b : α} (h : n ≤ 16777216) : (if n ≤ SZ then a else b) = a := if_pos h
/-- a call -/
theorem sat_call {T : Tab} {d f : Nat} {fd : Fd} {args : List MV} {M : Store} {P : MV → Store → Prop} (ρ0 : Env) (hf : T.fn f = some fd) (hn : args.length = fd.np) (hs : start fd.ns args = ρ0)
    (h : (evSs T (evC T d) fd.body ρ0 M).Sat fun r M1 => match r.1 with | .ret v => P v M1 | .nx => P .non M1 | _ => False) : (evC T (d + 1) f args M).Sat P := by
  subst hs
  unfold evC
  rw [hf]
  show (if args.length = fd.np then _ else _ : Res MV).Sat P
  rw [if_pos hn]
  refine sat_bind h fun r M1 p => ?_
  obtain ⟨o, ρ⟩ := r
  cases o with
  | ret v => exact sat_ok p
  | nx => exact sat_ok p
  | brk => exact p.elim
  | ct => exact p.elim
/-! one behind another -/
section
variable {T : Tab} {cl : Nat → List MV → Store → Res MV} {P : Out × Env → Store → Prop} {ρ : Env} {M : Store}
theorem sat_nil (h : P (.nx, ρ) M) : (evSs T cl [] ρ M).Sat P := by simp only [evSs]; exact sat_ok h
theorem sat_cons {s : S} {ss : List S} {R : Out × Env → Store → Prop} (h : (evS T cl s ρ M).Sat R) (k : ∀ r M1, R r M1 → (match r.1 with | .nx => (evSs T cl ss r.2 M1).Sat P | _ => P r M1)) : (evSs T cl (s :: ss) ρ M).Sat P := by
  simp only [evSs]
  refine sat_bind h fun r M1 p => ?_
  have := k r M1 p
  obtain ⟨o, ρ'⟩ := r
  cases o <;> first | exact this | exact sat_ok this
/-- the next statement goes on -/
theorem sat_next {s : S} {ss : List S} {ρ1 : Env} {M1 : Store} (h : evS T cl s ρ M = .ok (.nx, ρ1) M1) (k : (evSs T cl ss ρ1 M1).Sat P) : (evSs T cl (s :: ss) ρ M).Sat P := by
  simp only [evSs]
  rw [h]
  exact k
/-- a loop's run: the invariant by what is left -/
theorem sat_for {step : MV → Env → Store → Res (Out × Env)} {xs : List MV} (I : List MV → Env → Store → Prop) (h0 : I xs ρ M)
    (hs : ∀ x xs ρ M, I (x :: xs) ρ M → (step x ρ M).Sat fun r M' => match r.1 with | .nx => I xs r.2 M' | .ct => I xs r.2 M' | .brk => P (.nx, r.2) M' | .ret v => P (.ret v, r.2) M')
    (he : ∀ ρ M, I [] ρ M → P (.nx, ρ) M) : (forL step xs ρ M).Sat P := by
  induction xs generalizing ρ M with
  | nil => exact sat_ok (he ρ M h0)
  | cons x xs ih =>
    refine sat_bind (hs x xs ρ M h0) fun r M' p => ?_
    obtain ⟨o, ρ'⟩ := r
    cases o with
    | nx => exact ih p
    | ct => exact ih p
    | brk => exact sat_ok p
    | ret v => exact sat_ok p
theorem sat_whl {c : Env → Store → Res Bool} {b : Env → Store → Res (Out × Env)} (I : Nat → Env → Store → Prop) {n m : Nat} (hnm : m < n) (h0 : I m ρ M)
    (hs : ∀ m ρ M, I m ρ M → (c ρ M).Sat fun t M' => if t = true then (0 < m ∧ (b ρ M').Sat fun r M2 => match r.1 with | .nx => I (m - 1) r.2 M2 | .ct => I (m - 1) r.2 M2 | .brk => P (.nx, r.2) M2 | .ret v => P (.ret v, r.2) M2) else P (.nx, ρ) M') : (whlL c b n ρ M).Sat P := by
  induction n generalizing m ρ M with
  | zero => omega
  | succ n ih =>
    refine sat_bind (hs m ρ M h0) fun t M' p => ?_
    cases t with
    | false => rw [if_neg Bool.false_ne_true] at p; exact sat_ok p
    | true =>
      rw [if_pos rfl] at p
      obtain ⟨hm, p⟩ := p
      show (if true = true then _ else _ : Res (Out × Env)).Sat P
      rw [if_pos rfl]
      refine sat_bind p fun r M2 q => ?_
      obtain ⟨o, ρ'⟩ := r
      cases o with
      | nx => exact ih (by omega) q
      | ct => exact ih (by omega) q
      | brk => exact sat_ok q
      | ret v => exact sat_ok q
end
end Q

/-! EvW: the law's deck. -/
namespace Q
open PySem
/-- _law_next -/
def fdNext : Fd := ⟨1, 3, [.iff (.cmp .ne (.idx (.var 0) (.con (.int 0))) (.lst (.nil))) [.ret (.bm .popAt (.idx (.var 0) (.con (.int 0))) (.cons (.con (.int 0)) (.nil)))] [], .set 1 (.idx (.var 0) (.con (.int 2))), .setR (.var 0) (.con (.int 2)) (.bin .add (.var 1) (.con (.int 1))), .set 2 (.bin .add (.idx (.idx (.var 0) (.con (.int 1))) (.bin .mod (.bin .add (.var 1) (.con (.int 1))) (.bi .len (.cons (.idx (.var 0) (.con (.int 1))) (.nil))))) (.bin .mul (.con (.int 7)) (.var 1))), .ret (.bin .mod (.bin .add (.bin .mod (.bin .pow (.bin .add (.var 2) (.bin .mul (.con (.int 48271)) (.bin .add (.var 1) (.con (.int 1))))) (.con (.int 5))) (.con (.int 2147483647))) (.bin .mul (.con (.int 69621)) (.var 2))) (.con (.int 2147483629)))]⟩
structure Dk (M : Store) (b : Nat) : Prop where
  ex : ∃ (ds cs : List Int) (k : Nat), M.ob 0 = some (.lst (ds.map .int)) ∧ M.ob 1 = some (.lst [.ref 0, .lst .fz (cs.map .int), .int (k : Int)]) ∧ (∀ d ∈ ds, 0 ≤ d ∧ d < 2147483629) ∧ cs ≠ [] ∧ cs.length ≤ 64 ∧ (∀ c ∈ cs, 0 ≤ c ∧ c < 2147483629) ∧ k ≤ b
/-- all but the deck stays -/
structure Off (M M' : Store) : Prop where
  nx : M'.nx = M.nx
  ob : ∀ n, n ≠ 0 → n ≠ 1 → M'.ob n = M.ob n
theorem Off.refl (M : Store) : Off M M := ⟨rfl, fun _ _ _ => rfl⟩
theorem Off.trans {a b c : Store} (x : Off a b) (y : Off b c) : Off a c := ⟨y.nx.trans x.nx, fun n h0 h1 => (y.ob n h0 h1).trans (x.ob n h0 h1)⟩
theorem Dk.put0 {M : Store} {b : Nat} {ds cs : List Int} {k : Nat} (h1 : M.ob 1 = some (.lst [.ref 0, .lst .fz (cs.map .int), .int (k : Int)])) (hd : ∀ d ∈ ds, 0 ≤ d ∧ d < 2147483629) (hc0 : cs ≠ []) (hcl : cs.length ≤ 64) (hc : ∀ c ∈ cs, 0 ≤ c ∧ c < 2147483629) (hk : k ≤ b) : Dk (M.put 0 (.lst (ds.map .int))) b :=
  ⟨ds, cs, k, rfl, h1, hd, hc0, hcl, hc, hk⟩
theorem Dk.put1 {M : Store} {b : Nat} {ds cs : List Int} {k : Nat} (h0 : M.ob 0 = some (.lst (ds.map .int))) (hd : ∀ d ∈ ds, 0 ≤ d ∧ d < 2147483629) (hc0 : cs ≠ []) (hcl : cs.length ≤ 64) (hc : ∀ c ∈ cs, 0 ≤ c ∧ c < 2147483629) (hk : k ≤ b) : Dk (M.put 1 (.lst [.ref 0, .lst .fz (cs.map .int), .int (k : Int)])) b :=
  ⟨ds, cs, k, h0, rfl, hd, hc0, hcl, hc, hk⟩
theorem off_put {M : Store} {n : Nat} {o : MObj} (h : n = 0 ∨ n = 1) : Off M (M.put n o) := ⟨rfl, fun m h0 h1 => if_neg (by omega)⟩
theorem next_ok {T : Tab} {d f b : Nat} {M : Store} (hT : T.fn f = some fdNext) (h : Dk M b) (hb : b < 1000000) :
    (evC T (d + 1) f [.ref 1] M).Sat fun v M' => ∃ i : Int, v = .int i ∧ (0 ≤ i ∧ i < 2147483629) ∧ Dk M' (b + 1) ∧ Off M M' := by
  obtain ⟨ds, cs, k, h0, h1, hd, hc0, hcl, hc, hk⟩ := h.ex
  refine sat_call [some (.v (.ref 1)), none, none] hT rfl rfl ?_
  simp only [fdNext, evSs, evS, evT, evF, evE, evFs, evEs, evO, rb, ro, get0, getS, dr_int, dr_lst, dr_bl, dr_tup, dr_non, dr_str, t_bl, fr_int, fr_bl, fr_str, fr_non, fr_tup, fr_nw, fr_fz, fr_ro, fr_ref, ou_int, ou_bl, ou_tup, ou_nw, ou_fz, ou_bw, ou_ref, ou_non, ou_str, ix_l, ix_t, b_add, b_sub, l_len, l_lent, atM_0, atM_1, atM_2, List.getElem?_cons_zero, List.getElem?_cons_succ, List.length_cons, List.length_nil, List.replicate, List.cons_append, List.nil_append, if_true, Bool.false_eq_true, map1, map2, if_false, szif (Nat.zero_le _), dr_ref h0, dr_ref h1, ne_nil, Option.map_some]
  cases ds with
  | cons x ds =>
    simp only [List.isEmpty_cons, Bool.not_false, evSs, evS, evT, evF, evE, evFs, evEs, evO, rb, ro, get0, getS, dr_int, dr_lst, dr_bl, dr_tup, dr_non, dr_str, t_bl, fr_int, fr_bl, fr_str, fr_non, fr_tup, fr_nw, fr_fz, fr_ro, fr_ref, ou_int, ou_bl, ou_tup, ou_nw, ou_fz, ou_bw, ou_ref, ou_non, ou_str, ix_l, ix_t, b_add, b_sub, l_len, l_lent, atM_0, atM_1, atM_2, List.getElem?_cons_zero, List.getElem?_cons_succ, List.length_cons, List.length_nil, List.replicate, List.cons_append, List.nil_append, if_true, Bool.false_eq_true, map1, map2, if_false, szif (Nat.zero_le _), dr_ref h0, dr_ref h1, rv_pa, pop_0 (show M.ob 0 = some (.lst (.int x :: ds.map .int)) from h0)]
    exact sat_ok ⟨x, rfl, hd x (List.mem_cons_self ..), Dk.put0 h1 (fun y hy => hd y (List.mem_cons_of_mem _ hy)) hc0 hcl hc (by omega), off_put (.inl rfl)⟩
  | nil =>
    simp only [List.isEmpty_nil, Bool.not_true, evSs, evS, evT, evF, evE, evFs, evEs, evO, rb, ro, get0, getS, dr_int, dr_lst, dr_bl, dr_tup, dr_non, dr_str, t_bl, fr_int, fr_bl, fr_str, fr_non, fr_tup, fr_nw, fr_fz, fr_ro, fr_ref, ou_int, ou_bl, ou_tup, ou_nw, ou_fz, ou_bw, ou_ref, ou_non, ou_str, ix_l, ix_t, b_add, b_sub, l_len, l_lent, atM_0, atM_1, atM_2, List.getElem?_cons_zero, List.getElem?_cons_succ, List.length_cons, List.length_nil, List.replicate, List.cons_append, List.nil_append, if_true, Bool.false_eq_true, map1, map2, if_false, szif (Nat.zero_le _), dr_ref h0, dr_ref h1, h1, nxt, setV, List.set_cons_zero, List.set_cons_succ, atK_2, dr_put, Bi.it, Nat.reduceAdd, Nat.reduceLT, List.length_map]
    have hl : 0 < cs.length := List.length_pos_iff.mpr hc0
    obtain ⟨c, hm, hi⟩ := at_mod hc0 (k + 1)
    rw [show ((k + 1 : Nat) : Int) = (k : Int) + 1 from rfl] at hi
    have hcc := hc c hm
    have hk' : (k : Int) < 1000000 := by omega
    have hs : sm (c + 7 * (k : Int) + 48271 * ((k : Int) + 1)) = true := sm_of (by omega)
    simp only [b_mod ((k : Int) + 1) (cs.length : Int) (by omega), hi, b_mul 7 (k : Int) rfl, b_mul 48271 ((k : Int) + 1) rfl, b_mul 69621 (c + 7 * (k : Int)) rfl, b_pow5 _ hs, b_mod _ 2147483647 (by decide), b_mod _ 2147483629 (by decide), evSs, evS, evT, evF, evE, evFs, evEs, evO, rb, ro, get0, getS, dr_int, dr_lst, dr_bl, dr_tup, dr_non, dr_str, t_bl, fr_int, fr_bl, fr_str, fr_non, fr_tup, fr_nw, fr_fz, fr_ro, fr_ref, ou_int, ou_bl, ou_tup, ou_nw, ou_fz, ou_bw, ou_ref, ou_non, ou_str, ix_l, ix_t, b_add, b_sub, l_len, l_lent, atM_0, atM_1, atM_2, List.getElem?_cons_zero, List.getElem?_cons_succ, List.length_cons, List.length_nil, List.replicate, List.cons_append, List.nil_append, if_true, Bool.false_eq_true, map1, map2, if_false, szif (Nat.zero_le _)]
    refine sat_ok ⟨_, rfl, ⟨Int.emod_nonneg _ (by decide), Int.emod_lt_of_pos _ (by decide)⟩, ?_, off_put (.inr rfl)⟩
    exact Dk.put1 (k := k + 1) (b := b + 1) (ds := []) h0 (fun _ h => nomatch h) hc0 hcl hc (by omega)
end Q

/-! EvX: the law's deck is made. -/
namespace Q
open PySem
/-- _law_deck -/
def fdDeck : Fd := ⟨1, 4, [.own 1 (.lst (.nil)), .shr 1, .own 2 (.lst (.cons (.bi .len (.cons (.var 0) (.nil))) (.nil))), .forr (.nm 3) (.sl (.var 0) (.noE) (.con (.int 63))) [.set 3 (.bi .abs (.cons (.var 3) (.nil))), .app 2 (.bin .mod (.var 3) (.con (.int 2147483629))), .whl (.andd (.cmp .ge (.var 3) (.bin .pow (.con (.int 10)) (.con (.int 18)))) (.cmp .lt (.bi .len (.cons (.var 1) (.nil))) (.con (.int 900)))) [.expr (.bm .append (.var 1) (.cons (.bin .mod (.var 3) (.con (.int 2147483629))) (.nil))), .set 3 (.bin .fdiv (.var 3) (.con (.int 2147483629)))]], .frz 2, .ret (.shr (.lst (.cons (.var 1) (.cons (.var 2) (.cons (.con (.int 0)) (.nil))))))]⟩
theorem cut_map (ns : List Int) (lo hi : Option Int) : cutM (ns.map MV.int) lo hi = (cutM ns lo hi).map MV.int := by
  unfold cutM
  rw [List.length_map, List.map_take, List.map_drop]
theorem cut_63 (ns : List Int) : (cutM ns none (some (63 : Int))).length ≤ 63 := by
  unfold cutM
  rw [List.length_take]
  have : sIx ns.length ns.length (some 63) ≤ 63 := by
    show (if (63 : Int) < 0 then ((63 : Int) + ns.length).toNat else min (63 : Int).toNat ns.length) ≤ 63
    rw [if_neg (by decide)]
    exact Nat.le_trans (Nat.min_le_left _ _) (by decide)
  omega
/-- while the deck is being made -/
structure Dm (M : Store) (ds : List Int) : Prop where
  h0 : M.ob 0 = some (.lst (ds.map .int))
  hd : ∀ d ∈ ds, 0 ≤ d ∧ d < 2147483629
  hl : ds.length ≤ 900
  nx : M.nx = 1
  no : ∀ n, 1 ≤ n → M.ob n = none
theorem Dm.add {M : Store} {ds : List Int} (h : Dm M ds) (hz : ds.length < 900) {i : Int} (hi : 0 ≤ i ∧ i < 2147483629) : Dm (M.put 0 (.lst (ds.map .int ++ [.int i]))) (ds ++ [i]) :=
  ⟨by rw [ob_put]; simp, fun d hd => (List.mem_append.mp hd).elim (h.hd d) fun z => by rw [List.mem_singleton.mp z]; exact hi, by rw [List.length_append]; simp; omega, h.nx, fun n hn => (ob_put' (by omega)).trans (h.no n hn)⟩
theorem deck_ok {T : Tab} {d f : Nat} {ns : List Int} (hT : T.fn f = some fdDeck) (hW : 2000 < T.W) (hn : ns.length ≤ 63) :
    (evC T (d + 1) f [.lst .ro (ns.map .int)] ⟨0, fun _ => none⟩).Sat fun v M' => v = .ref 1 ∧ Dk M' 0 ∧ M'.nx = 2 ∧ ∀ n, 2 ≤ n → M'.ob n = none := by
  refine sat_call [some (.v (.lst .ro (ns.map .int))), none, none, none] hT rfl rfl ?_
  simp only [fdDeck, evSs, evS, evT, evF, evE, evFs, evEs, evO, rb, ro, get0, getS, dr_int, dr_lst, dr_bl, dr_tup, dr_non, dr_str, t_bl, fr_int, fr_bl, fr_str, fr_non, fr_tup, fr_nw, fr_fz, fr_ro, fr_ref, ou_int, ou_bl, ou_tup, ou_nw, ou_fz, ou_bw, ou_ref, ou_non, ou_str, ix_l, ix_t, b_add, b_sub, l_len, l_lent, atM_0, atM_1, atM_2, List.getElem?_cons_zero, List.getElem?_cons_succ, List.length_cons, List.length_nil, List.replicate, List.cons_append, List.nil_append, if_true, Bool.false_eq_true, map1, map2, if_false, szif (Nat.zero_le _), nx_s, so_l, so_d, sv_, bg_, get0o, l_abs, c_ge, c_lt, c_gt, c_le, sl_l, sl_t, it_f, it_t, bi_abs, bi_len, List.set_cons_zero, List.set_cons_succ, Nat.reduceAdd, Nat.reduceLT, Option.map_some, szif (by decide : 1 ≤ 16777216), szif (by decide : 2 ≤ 16777216), szif (by decide : 3 ≤ 16777216), szif (by decide : 4 ≤ 16777216), szif (by decide : 5 ≤ 16777216), szif (by decide : 6 ≤ 16777216), szif (by decide : 7 ≤ 16777216), szif (by decide : 8 ≤ 16777216), szif (by decide : 9 ≤ 16777216), cut_map]
  refine sat_bind (P := fun (r : Out × Env) (M : Store) => ∃ (ds cs : List Int) (y : Option SV), r = (.nx, [some (.v (.lst .ro (ns.map .int))), some (.v (.ref 0)), some (.ol (cs.map .int)), y]) ∧ Dm M ds ∧ cs ≠ [] ∧ cs.length ≤ 64 ∧ ∀ c ∈ cs, 0 ≤ c ∧ c < 2147483629)
    (sat_for (fun (xs : List MV) (ρ : Env) (M : Store) => ∃ (js ds cs : List Int) (y : Option SV), xs = js.map MV.int ∧ ρ = [some (.v (.lst .ro (ns.map .int))), some (.v (.ref 0)), some (.ol (cs.map .int)), y] ∧ Dm M ds ∧ cs ≠ [] ∧ cs.length + js.length ≤ 64 ∧ ∀ c ∈ cs, 0 ≤ c ∧ c < 2147483629) ?_ ?_ ?_) ?_
  · refine ⟨cutM ns none (some 63), [], [(ns.length : Int)], none, rfl, by simp, ⟨rfl, (fun _ h => nomatch h), Nat.zero_le _, rfl, fun n hn => if_neg (show ¬ n = 0 by omega)⟩, List.cons_ne_nil _ _, by have := cut_63 ns; show 1 + _ ≤ 64; omega, fun c hc => ?_⟩
    rw [List.mem_singleton.mp hc]
    omega
  · rintro x xs ρ M ⟨js, ds, cs, y, hx, rfl, hD, hc0, hcl, hc⟩
    cases js with
    | nil => cases hx
    | cons j js =>
      rw [List.map_cons] at hx
      cases hx
      simp only [evSs, evS, evT, evF, evE, evFs, evEs, evO, rb, ro, get0, getS, dr_int, dr_lst, dr_bl, dr_tup, dr_non, dr_str, t_bl, fr_int, fr_bl, fr_str, fr_non, fr_tup, fr_nw, fr_fz, fr_ro, fr_ref, ou_int, ou_bl, ou_tup, ou_nw, ou_fz, ou_bw, ou_ref, ou_non, ou_str, ix_l, ix_t, b_add, b_sub, l_len, l_lent, atM_0, atM_1, atM_2, List.getElem?_cons_zero, List.getElem?_cons_succ, List.length_cons, List.length_nil, List.replicate, List.cons_append, List.nil_append, if_true, Bool.false_eq_true, map1, map2, if_false, szif (Nat.zero_le _), nx_s, so_l, so_d, sv_, bg_, get0o, l_abs, c_ge, c_lt, c_gt, c_le, sl_l, sl_t, it_f, it_t, bi_abs, bi_len, List.set_cons_zero, List.set_cons_succ, Nat.reduceAdd, Nat.reduceLT, Option.map_some, szif (by decide : 1 ≤ 16777216), szif (by decide : 2 ≤ 16777216), szif (by decide : 3 ≤ 16777216), szif (by decide : 4 ≤ 16777216), szif (by decide : 5 ≤ 16777216), szif (by decide : 6 ≤ 16777216), szif (by decide : 7 ≤ 16777216), szif (by decide : 8 ≤ 16777216), szif (by decide : 9 ≤ 16777216)]
      have hlt : (cs.map MV.int).length < SZ := by rw [List.length_map, List.length_cons] at *; exact Nat.lt_of_lt_of_le (by omega : cs.length < 64) (by decide)
      simp only [b_mod _ 2147483629 (by decide), evSs, evS, evT, evF, evE, evFs, evEs, evO, rb, ro, get0, getS, dr_int, dr_lst, dr_bl, dr_tup, dr_non, dr_str, t_bl, fr_int, fr_bl, fr_str, fr_non, fr_tup, fr_nw, fr_fz, fr_ro, fr_ref, ou_int, ou_bl, ou_tup, ou_nw, ou_fz, ou_bw, ou_ref, ou_non, ou_str, ix_l, ix_t, b_add, b_sub, l_len, l_lent, atM_0, atM_1, atM_2, List.getElem?_cons_zero, List.getElem?_cons_succ, List.length_cons, List.length_nil, List.replicate, List.cons_append, List.nil_append, if_true, Bool.false_eq_true, map1, map2, if_false, szif (Nat.zero_le _), nx_s, so_l, so_d, sv_, bg_, get0o, l_abs, c_ge, c_lt, c_gt, c_le, sl_l, sl_t, it_f, it_t, bi_abs, bi_len, List.set_cons_zero, List.set_cons_succ, Nat.reduceAdd, Nat.reduceLT, Option.map_some, szif (by decide : 1 ≤ 16777216), szif (by decide : 2 ≤ 16777216), szif (by decide : 3 ≤ 16777216), szif (by decide : 4 ≤ 16777216), szif (by decide : 5 ≤ 16777216), szif (by decide : 6 ≤ 16777216), szif (by decide : 7 ≤ 16777216), szif (by decide : 8 ≤ 16777216), szif (by decide : 9 ≤ 16777216), if_pos hlt]
      have hj : 0 ≤ (if j < 0 then -j else j) := by split <;> omega
      generalize (if j < 0 then -j else j) = J at *
      have hcc : 0 ≤ J % 2147483629 ∧ J % 2147483629 < 2147483629 := ⟨Int.emod_nonneg _ (by decide), Int.emod_lt_of_pos _ (by decide)⟩
      have hw : (cs.map MV.int ++ [MV.int (J % 2147483629)]) = (cs ++ [J % 2147483629]).map MV.int := by simp
      rw [hw]
      refine sat_bind (P := fun (r : Out × Env) (M : Store) => ∃ (ds : List Int) (y : Option SV), r = (.nx, [some (.v (.lst .ro (ns.map .int))), some (.v (.ref 0)), some (.ol ((cs ++ [J % 2147483629]).map .int)), y]) ∧ Dm M ds)
        (sat_whl (fun (m : Nat) (ρ : Env) (M : Store) => ∃ (ds : List Int) (J' : Int), m = 900 - ds.length ∧ 0 ≤ J' ∧ ρ = [some (.v (.lst .ro (ns.map .int))), some (.v (.ref 0)), some (.ol ((cs ++ [J % 2147483629]).map .int)), some (.v (.int J'))] ∧ Dm M ds) (m := 900 - ds.length) (by omega) ⟨ds, J, rfl, hj, rfl, hD⟩ ?_) ?_
      · rintro m ρ M ⟨ds, J', rfl, hJ, rfl, hD⟩
        simp only [show binM .pow (.int 10) (.int 18) = some (.int (10 ^ 18)) from b_pow 10 18 (by decide) rfl, b_mod _ 2147483629 (by decide), b_div _ 2147483629 (by decide), dr_ref hD.h0, evSs, evS, evT, evF, evE, evFs, evEs, evO, rb, ro, get0, getS, dr_int, dr_lst, dr_bl, dr_tup, dr_non, dr_str, t_bl, fr_int, fr_bl, fr_str, fr_non, fr_tup, fr_nw, fr_fz, fr_ro, fr_ref, ou_int, ou_bl, ou_tup, ou_nw, ou_fz, ou_bw, ou_ref, ou_non, ou_str, ix_l, ix_t, b_add, b_sub, l_len, l_lent, atM_0, atM_1, atM_2, List.getElem?_cons_zero, List.getElem?_cons_succ, List.length_cons, List.length_nil, List.replicate, List.cons_append, List.nil_append, if_true, Bool.false_eq_true, map1, map2, if_false, szif (Nat.zero_le _), nx_s, so_l, so_d, sv_, bg_, get0o, l_abs, c_ge, c_lt, c_gt, c_le, sl_l, sl_t, it_f, it_t, bi_abs, bi_len, List.set_cons_zero, List.set_cons_succ, Nat.reduceAdd, Nat.reduceLT, Option.map_some, szif (by decide : 1 ≤ 16777216), szif (by decide : 2 ≤ 16777216), szif (by decide : 3 ≤ 16777216), szif (by decide : 4 ≤ 16777216), szif (by decide : 5 ≤ 16777216), szif (by decide : 6 ≤ 16777216), szif (by decide : 7 ≤ 16777216), szif (by decide : 8 ≤ 16777216), szif (by decide : 9 ≤ 16777216)]
        by_cases h1 : (10 : Int) ^ 18 ≤ J'
        · by_cases h2 : (ds.length : Int) < 900
          · have happ := app_r (y := .int (J' % 2147483629)) hD.h0 (show (ds.map MV.int).length < SZ by rw [List.length_map]; exact Nat.lt_of_lt_of_le (by omega : ds.length < 900) (by decide))
            simp only [h1, h2, decide_true, List.length_map, evSs, evS, evT, evF, evE, evFs, evEs, evO, rb, ro, get0, getS, dr_int, dr_lst, dr_bl, dr_tup, dr_non, dr_str, t_bl, fr_int, fr_bl, fr_str, fr_non, fr_tup, fr_nw, fr_fz, fr_ro, fr_ref, ou_int, ou_bl, ou_tup, ou_nw, ou_fz, ou_bw, ou_ref, ou_non, ou_str, ix_l, ix_t, b_add, b_sub, l_len, l_lent, atM_0, atM_1, atM_2, List.getElem?_cons_zero, List.getElem?_cons_succ, List.length_cons, List.length_nil, List.replicate, List.cons_append, List.nil_append, if_true, Bool.false_eq_true, map1, map2, if_false, szif (Nat.zero_le _), nx_s, so_l, so_d, sv_, bg_, get0o, l_abs, c_ge, c_lt, c_gt, c_le, sl_l, sl_t, it_f, it_t, bi_abs, bi_len, List.set_cons_zero, List.set_cons_succ, Nat.reduceAdd, Nat.reduceLT, Option.map_some, szif (by decide : 1 ≤ 16777216), szif (by decide : 2 ≤ 16777216), szif (by decide : 3 ≤ 16777216), szif (by decide : 4 ≤ 16777216), szif (by decide : 5 ≤ 16777216), szif (by decide : 6 ≤ 16777216), szif (by decide : 7 ≤ 16777216), szif (by decide : 8 ≤ 16777216), szif (by decide : 9 ≤ 16777216)]
            refine sat_ok ?_
            simp only [dr_ref hD.h0, rv_ap, happ, b_div _ 2147483629 (by decide), evSs, evS, evT, evF, evE, evFs, evEs, evO, rb, ro, get0, getS, dr_int, dr_lst, dr_bl, dr_tup, dr_non, dr_str, t_bl, fr_int, fr_bl, fr_str, fr_non, fr_tup, fr_nw, fr_fz, fr_ro, fr_ref, ou_int, ou_bl, ou_tup, ou_nw, ou_fz, ou_bw, ou_ref, ou_non, ou_str, ix_l, ix_t, b_add, b_sub, l_len, l_lent, atM_0, atM_1, atM_2, List.getElem?_cons_zero, List.getElem?_cons_succ, List.length_cons, List.length_nil, List.replicate, List.cons_append, List.nil_append, if_true, Bool.false_eq_true, map1, map2, if_false, szif (Nat.zero_le _), nx_s, so_l, so_d, sv_, bg_, get0o, l_abs, c_ge, c_lt, c_gt, c_le, sl_l, sl_t, it_f, it_t, bi_abs, bi_len, List.set_cons_zero, List.set_cons_succ, Nat.reduceAdd, Nat.reduceLT, Option.map_some, szif (by decide : 1 ≤ 16777216), szif (by decide : 2 ≤ 16777216), szif (by decide : 3 ≤ 16777216), szif (by decide : 4 ≤ 16777216), szif (by decide : 5 ≤ 16777216), szif (by decide : 6 ≤ 16777216), szif (by decide : 7 ≤ 16777216), szif (by decide : 8 ≤ 16777216), szif (by decide : 9 ≤ 16777216)]
            refine ⟨by omega, sat_ok ⟨ds ++ [J' % 2147483629], J' / 2147483629, by rw [List.length_append]; simp only [List.length_cons, List.length_nil]; omega, Int.ediv_nonneg hJ (by decide), rfl, hD.add (by omega) ⟨Int.emod_nonneg _ (by decide), Int.emod_lt_of_pos _ (by decide)⟩⟩⟩
          · simp only [h1, h2, decide_true, decide_false, List.length_map, evSs, evS, evT, evF, evE, evFs, evEs, evO, rb, ro, get0, getS, dr_int, dr_lst, dr_bl, dr_tup, dr_non, dr_str, t_bl, fr_int, fr_bl, fr_str, fr_non, fr_tup, fr_nw, fr_fz, fr_ro, fr_ref, ou_int, ou_bl, ou_tup, ou_nw, ou_fz, ou_bw, ou_ref, ou_non, ou_str, ix_l, ix_t, b_add, b_sub, l_len, l_lent, atM_0, atM_1, atM_2, List.getElem?_cons_zero, List.getElem?_cons_succ, List.length_cons, List.length_nil, List.replicate, List.cons_append, List.nil_append, if_true, Bool.false_eq_true, map1, map2, if_false, szif (Nat.zero_le _), nx_s, so_l, so_d, sv_, bg_, get0o, l_abs, c_ge, c_lt, c_gt, c_le, sl_l, sl_t, it_f, it_t, bi_abs, bi_len, List.set_cons_zero, List.set_cons_succ, Nat.reduceAdd, Nat.reduceLT, Option.map_some, szif (by decide : 1 ≤ 16777216), szif (by decide : 2 ≤ 16777216), szif (by decide : 3 ≤ 16777216), szif (by decide : 4 ≤ 16777216), szif (by decide : 5 ≤ 16777216), szif (by decide : 6 ≤ 16777216), szif (by decide : 7 ≤ 16777216), szif (by decide : 8 ≤ 16777216), szif (by decide : 9 ≤ 16777216)]
            exact sat_ok ⟨ds, _, rfl, hD⟩
        · simp only [h1, decide_false, evSs, evS, evT, evF, evE, evFs, evEs, evO, rb, ro, get0, getS, dr_int, dr_lst, dr_bl, dr_tup, dr_non, dr_str, t_bl, fr_int, fr_bl, fr_str, fr_non, fr_tup, fr_nw, fr_fz, fr_ro, fr_ref, ou_int, ou_bl, ou_tup, ou_nw, ou_fz, ou_bw, ou_ref, ou_non, ou_str, ix_l, ix_t, b_add, b_sub, l_len, l_lent, atM_0, atM_1, atM_2, List.getElem?_cons_zero, List.getElem?_cons_succ, List.length_cons, List.length_nil, List.replicate, List.cons_append, List.nil_append, if_true, Bool.false_eq_true, map1, map2, if_false, szif (Nat.zero_le _), nx_s, so_l, so_d, sv_, bg_, get0o, l_abs, c_ge, c_lt, c_gt, c_le, sl_l, sl_t, it_f, it_t, bi_abs, bi_len, List.set_cons_zero, List.set_cons_succ, Nat.reduceAdd, Nat.reduceLT, Option.map_some, szif (by decide : 1 ≤ 16777216), szif (by decide : 2 ≤ 16777216), szif (by decide : 3 ≤ 16777216), szif (by decide : 4 ≤ 16777216), szif (by decide : 5 ≤ 16777216), szif (by decide : 6 ≤ 16777216), szif (by decide : 7 ≤ 16777216), szif (by decide : 8 ≤ 16777216), szif (by decide : 9 ≤ 16777216)]
          exact sat_ok ⟨ds, _, rfl, hD⟩
      · rintro r M ⟨ds, y, rfl, hD⟩
        refine sat_ok ⟨js, ds, _, y, rfl, rfl, hD, by simp, by rw [List.length_append]; simp only [List.length_cons, List.length_nil] at *; omega, fun c h => (List.mem_append.mp h).elim (hc c) fun z => by rw [List.mem_singleton.mp z]; exact hcc⟩
  · rintro ρ M ⟨js, ds, cs, y, hx, rfl, hD, hc0, hcl, hc⟩
    cases js with
    | nil => exact ⟨ds, cs, y, rfl, hD, hc0, by simpa using hcl, hc⟩
    | cons j js => cases hx
  · rintro r M ⟨ds, cs, y, rfl, hD, hc0, hcl, hc⟩
    simp only [evSs, evS, evT, evF, evE, evFs, evEs, evO, rb, ro, get0, getS, dr_int, dr_lst, dr_bl, dr_tup, dr_non, dr_str, t_bl, fr_int, fr_bl, fr_str, fr_non, fr_tup, fr_nw, fr_fz, fr_ro, fr_ref, ou_int, ou_bl, ou_tup, ou_nw, ou_fz, ou_bw, ou_ref, ou_non, ou_str, ix_l, ix_t, b_add, b_sub, l_len, l_lent, atM_0, atM_1, atM_2, List.getElem?_cons_zero, List.getElem?_cons_succ, List.length_cons, List.length_nil, List.replicate, List.cons_append, List.nil_append, if_true, Bool.false_eq_true, map1, map2, if_false, szif (Nat.zero_le _), nx_s, so_l, so_d, sv_, bg_, get0o, l_abs, c_ge, c_lt, c_gt, c_le, sl_l, sl_t, it_f, it_t, bi_abs, bi_len, List.set_cons_zero, List.set_cons_succ, Nat.reduceAdd, Nat.reduceLT, Option.map_some, szif (by decide : 1 ≤ 16777216), szif (by decide : 2 ≤ 16777216), szif (by decide : 3 ≤ 16777216), szif (by decide : 4 ≤ 16777216), szif (by decide : 5 ≤ 16777216), szif (by decide : 6 ≤ 16777216), szif (by decide : 7 ≤ 16777216), szif (by decide : 8 ≤ 16777216), szif (by decide : 9 ≤ 16777216)]
    have h0 := hD.nx
    refine sat_ok ⟨congrArg MV.ref h0, ⟨ds, cs, 0, ?_, ?_, hD.hd, hc0, hcl, hc, Nat.le_refl _⟩, congrArg (· + 1) h0, fun n hn => ?_⟩
    · exact (if_neg (show ¬ 0 = M.nx by omega)).trans hD.h0
    · exact if_pos h0.symm
    · exact (if_neg (show ¬ n = M.nx by omega)).trans (hD.no n (by omega))
end Q

/-! EvY: the law's small helpers. -/
namespace Q
open PySem
theorem at_mod' {α : Type} {xs : List α} (h : xs ≠ []) (i : Int) : ∃ x, x ∈ xs ∧ atM xs (i % (xs.length : Int)) = some x := by
  have hl : 0 < xs.length := List.length_pos_iff.mpr h
  have h0 := Int.emod_nonneg i (show (xs.length : Int) ≠ 0 by omega)
  have h1 := Int.emod_lt_of_pos i (show 0 < (xs.length : Int) by omega)
  obtain ⟨k, hk⟩ : ∃ k : Nat, i % (xs.length : Int) = k := ⟨_, (Int.toNat_of_nonneg h0).symm⟩
  have hm : k < xs.length := by omega
  exact ⟨xs[k], List.getElem_mem hm, by rw [hk, atM_nat, List.getElem?_eq_getElem hm]⟩
theorem sat_eq {α : Type} {r : Res α} {v : α} {M : Store} (h : r.Sat fun v' M' => v' = v ∧ M' = M) : r = .ok v M := by
  obtain ⟨v, M', e, rfl, rfl⟩ := h
  exact e
theorem c_eqb (a b : Bool) : cmpM .eq (.bl a) (.bl b) = some (a == b) := by cases a <;> cases b <;> rfl
/-- a comprehension with nothing done beside -/
theorem lc_pure {step : MV → Store → Res (Option MV)} {xs acc : List MV} {M : Store} (g : MV → Option MV) (h : ∀ x ∈ xs, step x M = .ok (g x) M) (hz : acc.length + xs.length ≤ SZ) : lcL step xs acc M = .ok (acc ++ xs.filterMap g) M := by
  induction xs generalizing acc with
  | nil => show Res.ok acc M = _; rw [List.filterMap_nil, List.append_nil]
  | cons x xs ih =>
    show (step x M).bind _ = _
    rw [h x (List.mem_cons_self ..)]
    rw [List.length_cons] at hz
    cases hg : g x with
    | none =>
      show lcL step xs acc M = _
      rw [ih (fun y hy => h y (List.mem_cons_of_mem _ hy)) (by omega), List.filterMap_cons_none hg]
    | some y =>
      show (if acc.length < SZ then lcL step xs (acc ++ [y]) M else .stuck) = _
      rw [if_pos (by omega), ih (fun y hy => h y (List.mem_cons_of_mem _ hy)) (by rw [List.length_append]; simp only [List.length_cons, List.length_nil]; omega), List.filterMap_cons_some hg, List.append_assoc]
      rfl
theorem lc_map {α : Type} {step : MV → Store → Res (Option MV)} {zs : List α} {φ : α → MV} {M : Store} (g : α → Option MV) (h : ∀ z ∈ zs, step (φ z) M = .ok (g z) M) (hz : zs.length ≤ SZ) : lcL step (zs.map φ) [] M = .ok (zs.filterMap g) M := by
  have : ∀ acc : List MV, acc.length + zs.length ≤ SZ → lcL step (zs.map φ) acc M = .ok (acc ++ zs.filterMap g) M := by
    clear hz
    induction zs with
    | nil => intro acc _; show Res.ok acc M = _; rw [List.filterMap_nil, List.append_nil]
    | cons x xs ih =>
      intro acc hz
      show (step (φ x) M).bind _ = _
      rw [h x (List.mem_cons_self ..)]
      rw [List.length_cons] at hz
      cases hg : g x with
      | none =>
        show lcL step (xs.map φ) acc M = _
        rw [ih (fun y hy => h y (List.mem_cons_of_mem _ hy)) acc (by omega), List.filterMap_cons_none hg]
      | some y =>
        show (if acc.length < SZ then lcL step (xs.map φ) (acc ++ [y]) M else .stuck) = _
        rw [if_pos (by omega), ih (fun y hy => h y (List.mem_cons_of_mem _ hy)) _ (by rw [List.length_append]; simp only [List.length_cons, List.length_nil]; omega), List.filterMap_cons_some hg, List.append_assoc]
        rfl
  rw [this [] (by simpa using hz), List.nil_append]
end Q

/-! EvZ: the law's small helpers, on. -/
namespace Q
open PySem
theorem bi_r1 : Bi.range1.it = true := rfl
theorem l_r1 (j : Int) (h : -1000000 < j ∧ j < 1000000) : evBi .range1 [.int j] = some (.lst .nw (rangeL 0 j)) := if_pos h
theorem ty_ib (T : Tab) (M : Store) (i : Int) : isTy T M (.int i) .bool = some false := rfl
theorem ty_ii (T : Tab) (M : Store) (i : Int) : isTy T M (.int i) .int = some true := rfl
end Q

/-! EwA: k13's own makers. -/
namespace Q
open PySem
theorem bnd {α β γ : Type} (r : Res α) (f : α → Store → Res β) (g : β → Store → Res γ) : (r.bind f).bind g = r.bind fun a M => (f a M).bind g := by cases r <;> rfl
theorem sq_l (k : Kd) (xs : List MV) : seqOf (.lst k xs) = some xs := rfl
theorem sq_t (xs : List MV) : seqOf (.tup xs) = some xs := rfl
theorem wp_n (ρ : Env) : wipe ρ [] = ρ := rfl
theorem wp_c (ρ : Env) (i : Nat) (is : List Nat) : wipe ρ (i :: is) = (wipe ρ is).set i none := rfl
theorem bi_tuple : Bi.tuple.it = false := rfl
theorem l_tpl (k : Kd) (xs : List MV) : evBi .tuple [.lst k xs] = some (.tup xs) := rfl
theorem l_tpt (xs : List MV) : evBi .tuple [.tup xs] = some (.tup xs) := rfl
theorem Dk.mono {M : Store} {a b : Nat} (h : Dk M a) (hab : a ≤ b) : Dk M b := by
  obtain ⟨ds, cs, k, h0, h1, hd, hc0, hcl, hc, hk⟩ := h.ex
  exact ⟨ds, cs, k, h0, h1, hd, hc0, hcl, hc, Nat.le_trans hk hab⟩
namespace K13
def jobM (j : Int × Int) : MV := .tup [.int j.1, .int j.2]
end K13
end Q

/-! EwB: k13's program: numbers and jobs. -/
namespace Q
open PySem
local macro_rules
  | `(tactic| simp_arith [$as,*]) => `(tactic| simp only [$as,*, evSs, evS, evT, evF, evE, evFs, evEs, evO, rb, ro, get0, getS, dr_int, dr_lst, dr_bl, dr_tup, dr_non, dr_str, t_bl, fr_int, fr_bl, fr_str, fr_non, fr_tup, fr_nw, fr_fz, fr_ro, fr_ref, ou_int, ou_bl, ou_tup, ou_nw, ou_fz, ou_bw, ou_ref, ou_non, ou_str, ix_l, ix_t, b_add, b_sub, l_len, l_lent, atM_0, atM_1, atM_2, List.getElem?_cons_zero, List.getElem?_cons_succ, List.length_cons, List.length_nil, List.replicate, List.cons_append, List.nil_append, if_true, Bool.false_eq_true, map1, map2, if_false, szif (Nat.zero_le _), nx_s, so_l, so_d, sv_, bg_, get0o, l_abs, c_ge, c_lt, c_gt, c_le, sl_l, sl_t, it_f, it_t, bi_abs, bi_len, List.set_cons_zero, List.set_cons_succ, Nat.reduceAdd, Nat.reduceLT, Option.map_some, szif (by decide : 1 ≤ 16777216), szif (by decide : 2 ≤ 16777216), szif (by decide : 3 ≤ 16777216), szif (by decide : 4 ≤ 16777216), szif (by decide : 5 ≤ 16777216), szif (by decide : 6 ≤ 16777216), szif (by decide : 7 ≤ 16777216), szif (by decide : 8 ≤ 16777216), szif (by decide : 9 ≤ 16777216), bnd, sq_l, sq_t, wp_n, wp_c, bi_tuple, l_tpl, l_tpt])
theorem ty_tt (T : Tab) (M : Store) (xs : List MV) : isTy T M (.tup xs) .tup = some true := rfl
theorem bi_all : Bi.all.it = false := rfl
namespace K13
def fdWhole : Fd := ⟨1, 1, [.ret (.andd (.isin (.var 0) .int) (.nt (.isin (.var 0) .bool)))]⟩
def fdWithin (w : Nat) : Fd := ⟨3, 3, [.ret (.andd (.call w (.cons (.var 0) (.nil))) (.chain .le .le (.var 1) (.var 0) (.var 2)))]⟩
theorem whole_ok {T : Tab} {d f : Nat} {M : Store} {i : Int} (hT : T.fn f = some fdWhole) : evC T (d + 1) f [.int i] M = .ok (.bl true) M := by
  refine sat_eq (sat_call [some (.v (.int i))] hT rfl rfl ?_)
  simp_arith [fdWhole, ty_ib, ty_ii]
  exact sat_ok ⟨rfl, rfl⟩
theorem within_ok {T : Tab} {d f w : Nat} {M : Store} {i a b : Int} (hT : T.fn f = some (fdWithin w)) (hW : T.fn w = some fdWhole) : evC T (d + 2) f [.int i, .int a, .int b] M = .ok (.bl (decide (a ≤ i) && decide (i ≤ b))) M := by
  refine sat_eq (sat_call [some (.v (.int i)), some (.v (.int a)), some (.v (.int b))] hT rfl rfl ?_)
  simp_arith [fdWithin, whole_ok hW]
  by_cases h : a ≤ i
  · simp_arith [h, decide_true]
    exact sat_ok ⟨rfl, rfl⟩
  · simp_arith [h, decide_false]
    exact sat_ok ⟨rfl, rfl⟩
end K13
end Q

/-! EwC: k13's program: the task. -/
namespace Q
open PySem
local macro_rules
  | `(tactic| simp_arith [$as,*]) => `(tactic| simp only [$as,*, evSs, evS, evT, evF, evE, evFs, evEs, evO, rb, ro, get0, getS, dr_int, dr_lst, dr_bl, dr_tup, dr_non, dr_str, t_bl, fr_int, fr_bl, fr_str, fr_non, fr_tup, fr_nw, fr_fz, fr_ro, fr_ref, ou_int, ou_bl, ou_tup, ou_nw, ou_fz, ou_bw, ou_ref, ou_non, ou_str, ix_l, ix_t, b_add, b_sub, l_len, l_lent, atM_0, atM_1, atM_2, List.getElem?_cons_zero, List.getElem?_cons_succ, List.length_cons, List.length_nil, List.replicate, List.cons_append, List.nil_append, if_true, Bool.false_eq_true, map1, map2, if_false, szif (Nat.zero_le _), nx_s, so_l, so_d, sv_, bg_, get0o, l_abs, c_ge, c_lt, c_gt, c_le, sl_l, sl_t, it_f, it_t, bi_abs, bi_len, List.set_cons_zero, List.set_cons_succ, Nat.reduceAdd, Nat.reduceLT, Option.map_some, szif (by decide : 1 ≤ 16777216), szif (by decide : 2 ≤ 16777216), szif (by decide : 3 ≤ 16777216), szif (by decide : 4 ≤ 16777216), szif (by decide : 5 ≤ 16777216), szif (by decide : 6 ≤ 16777216), szif (by decide : 7 ≤ 16777216), szif (by decide : 8 ≤ 16777216), szif (by decide : 9 ≤ 16777216), bnd, sq_l, sq_t, wp_n, wp_c, bi_tuple, l_tpl, l_tpt])
theorem ins_r {M : Store} {n C : Nat} {fs : List (Nat × MV)} (h : M.ob n = some (.ins C fs)) : insOf M (.ref n) = some (n, C, fs) := by
  show (match M.ob n with | some (.ins C fs) => some (n, C, fs) | _ => none) = _
  rw [h]
namespace K13
end K13
end Q

/-! EwD: k13's program: the doors. -/
namespace Q
open PySem
local macro_rules
  | `(tactic| simp_arith [$as,*]) => `(tactic| simp only [$as,*, evSs, evS, evT, evF, evE, evFs, evEs, evO, rb, ro, get0, getS, dr_int, dr_lst, dr_bl, dr_tup, dr_non, dr_str, t_bl, fr_int, fr_bl, fr_str, fr_non, fr_tup, fr_nw, fr_fz, fr_ro, fr_ref, ou_int, ou_bl, ou_tup, ou_nw, ou_fz, ou_bw, ou_ref, ou_non, ou_str, ix_l, ix_t, b_add, b_sub, l_len, l_lent, atM_0, atM_1, atM_2, List.getElem?_cons_zero, List.getElem?_cons_succ, List.length_cons, List.length_nil, List.replicate, List.cons_append, List.nil_append, if_true, Bool.false_eq_true, map1, map2, if_false, szif (Nat.zero_le _), nx_s, so_l, so_d, sv_, bg_, get0o, l_abs, c_ge, c_lt, c_gt, c_le, sl_l, sl_t, it_f, it_t, bi_abs, bi_len, List.set_cons_zero, List.set_cons_succ, Nat.reduceAdd, Nat.reduceLT, Option.map_some, szif (by decide : 1 ≤ 16777216), szif (by decide : 2 ≤ 16777216), szif (by decide : 3 ≤ 16777216), szif (by decide : 4 ≤ 16777216), szif (by decide : 5 ≤ 16777216), szif (by decide : 6 ≤ 16777216), szif (by decide : 7 ≤ 16777216), szif (by decide : 8 ≤ 16777216), szif (by decide : 9 ≤ 16777216), bnd, sq_l, sq_t, wp_n, wp_c, bi_tuple, l_tpl, l_tpt])
namespace K13
end K13
end Q

/-! EwE: k13's program: the standings. -/
namespace Q
open PySem
local macro_rules
  | `(tactic| simp_arith [$as,*]) => `(tactic| simp only [$as,*, evSs, evS, evT, evF, evE, evFs, evEs, evO, rb, ro, get0, getS, dr_int, dr_lst, dr_bl, dr_tup, dr_non, dr_str, t_bl, fr_int, fr_bl, fr_str, fr_non, fr_tup, fr_nw, fr_fz, fr_ro, fr_ref, ou_int, ou_bl, ou_tup, ou_nw, ou_fz, ou_bw, ou_ref, ou_non, ou_str, ix_l, ix_t, b_add, b_sub, l_len, l_lent, atM_0, atM_1, atM_2, List.getElem?_cons_zero, List.getElem?_cons_succ, List.length_cons, List.length_nil, List.replicate, List.cons_append, List.nil_append, if_true, Bool.false_eq_true, map1, map2, if_false, szif (Nat.zero_le _), nx_s, so_l, so_d, sv_, bg_, get0o, l_abs, c_ge, c_lt, c_gt, c_le, sl_l, sl_t, it_f, it_t, bi_abs, bi_len, List.set_cons_zero, List.set_cons_succ, Nat.reduceAdd, Nat.reduceLT, Option.map_some, szif (by decide : 1 ≤ 16777216), szif (by decide : 2 ≤ 16777216), szif (by decide : 3 ≤ 16777216), szif (by decide : 4 ≤ 16777216), szif (by decide : 5 ≤ 16777216), szif (by decide : 6 ≤ 16777216), szif (by decide : 7 ≤ 16777216), szif (by decide : 8 ≤ 16777216), szif (by decide : 9 ≤ 16777216), bnd, sq_l, sq_t, wp_n, wp_c, bi_tuple, l_tpl, l_tpt])
theorem rep_tup (x : MV) (n : Nat) (h : 1 ≤ n ∧ n ≤ 1000) : binM .mul (.tup [x]) (.int (n : Int)) = some (.tup (List.replicate n x)) := by
  have e : binM .mul (.tup [x]) (.int (n : Int)) = if [x] ≠ [] ∧ (1 : Int) ≤ n ∧ (n : Int) ≤ 1000 ∧ [x].length ≤ 1000 then some (.tup (List.replicate (n : Int).toNat [x]).flatten) else none := rfl
  rw [e, if_pos ⟨List.cons_ne_nil _ _, by omega, by omega, (show 1 ≤ 1000 by decide)⟩, Int.toNat_natCast]
  congr 2
  clear h e
  induction n with
  | zero => rfl
  | succ n ih => rw [List.replicate_succ, List.replicate_succ, List.flatten_cons, ih]; rfl
namespace K13
/-- the task stands at 2 -/
def Tk (M : Store) (js : List (Int × Int)) : Prop := M.ob 2 = some (.ins 1 [(1, .tup (js.map jobM))])
theorem Tk.off {M M' : Store} {js : List (Int × Int)} (h : Tk M js) (o : Off M M') : Tk M' js := (o.ob 2 (by decide) (by decide)).trans h
end K13
end Q

/-! EwF: k13's program: late. -/
namespace Q
open PySem
local macro_rules
  | `(tactic| simp_arith [$as,*]) => `(tactic| simp only [$as,*, evSs, evS, evT, evF, evE, evFs, evEs, evO, rb, ro, get0, getS, dr_int, dr_lst, dr_bl, dr_tup, dr_non, dr_str, t_bl, fr_int, fr_bl, fr_str, fr_non, fr_tup, fr_nw, fr_fz, fr_ro, fr_ref, ou_int, ou_bl, ou_tup, ou_nw, ou_fz, ou_bw, ou_ref, ou_non, ou_str, ix_l, ix_t, b_add, b_sub, l_len, l_lent, atM_0, atM_1, atM_2, List.getElem?_cons_zero, List.getElem?_cons_succ, List.length_cons, List.length_nil, List.replicate, List.cons_append, List.nil_append, if_true, Bool.false_eq_true, map1, map2, if_false, szif (Nat.zero_le _), nx_s, so_l, so_d, sv_, bg_, get0o, l_abs, c_ge, c_lt, c_gt, c_le, sl_l, sl_t, it_f, it_t, bi_abs, bi_len, List.set_cons_zero, List.set_cons_succ, Nat.reduceAdd, Nat.reduceLT, Option.map_some, szif (by decide : 1 ≤ 16777216), szif (by decide : 2 ≤ 16777216), szif (by decide : 3 ≤ 16777216), szif (by decide : 4 ≤ 16777216), szif (by decide : 5 ≤ 16777216), szif (by decide : 6 ≤ 16777216), szif (by decide : 7 ≤ 16777216), szif (by decide : 8 ≤ 16777216), szif (by decide : 9 ≤ 16777216), bnd, sq_l, sq_t, wp_n, wp_c, bi_tuple, l_tpl, l_tpt])
theorem l_ent (xs : List MV) : evBi .enum [.tup xs] = some (.lst (MV.tup xs).kd (enumF 0 xs)) := rfl
theorem bi_enum : Bi.enum.it = true := rfl
theorem bi_max2 : Bi.max2.it = false := rfl
theorem l_max2 (i j : Int) : evBi .max2 [.int i, .int j] = some (.int (if j > i then j else i)) := rfl
theorem ints_map (is : List Int) : intsOf (is.map .int) = some is := by
  induction is with
  | nil => rfl
  | cons i is ih => rw [List.map_cons]; unfold intsOf; rw [ih]
theorem c_eqi (i j : Int) : cmpM .eq (.int i) (.int j) = some (i == j) := rfl
theorem atM_map {α : Type} {φ : α → MV} (xs : List α) (k : Nat) : atM (xs.map φ) (k : Int) = (xs[k]?).map φ := by
  rw [atM_nat, List.getElem?_map]
namespace K13
end K13
end Q

/-! EwG: k13's program: bound. -/
namespace Q
open PySem
local macro_rules
  | `(tactic| simp_arith [$as,*]) => `(tactic| simp only [$as,*, evSs, evS, evT, evF, evE, evFs, evEs, evO, rb, ro, get0, getS, dr_int, dr_lst, dr_bl, dr_tup, dr_non, dr_str, t_bl, fr_int, fr_bl, fr_str, fr_non, fr_tup, fr_nw, fr_fz, fr_ro, fr_ref, ou_int, ou_bl, ou_tup, ou_nw, ou_fz, ou_bw, ou_ref, ou_non, ou_str, ix_l, ix_t, b_add, b_sub, l_len, l_lent, atM_0, atM_1, atM_2, List.getElem?_cons_zero, List.getElem?_cons_succ, List.length_cons, List.length_nil, List.replicate, List.cons_append, List.nil_append, if_true, Bool.false_eq_true, map1, map2, if_false, szif (Nat.zero_le _), nx_s, so_l, so_d, sv_, bg_, get0o, l_abs, c_ge, c_lt, c_gt, c_le, sl_l, sl_t, it_f, it_t, bi_abs, bi_len, List.set_cons_zero, List.set_cons_succ, Nat.reduceAdd, Nat.reduceLT, Option.map_some, szif (by decide : 1 ≤ 16777216), szif (by decide : 2 ≤ 16777216), szif (by decide : 3 ≤ 16777216), szif (by decide : 4 ≤ 16777216), szif (by decide : 5 ≤ 16777216), szif (by decide : 6 ≤ 16777216), szif (by decide : 7 ≤ 16777216), szif (by decide : 8 ≤ 16777216), szif (by decide : 9 ≤ 16777216), bnd, sq_l, sq_t, wp_n, wp_c, bi_tuple, l_tpl, l_tpt])
namespace K13
end K13
end Q

/-! EwH: k13's program: nexts. -/
namespace Q
open PySem
local macro_rules
  | `(tactic| simp_arith [$as,*]) => `(tactic| simp only [$as,*, evSs, evS, evT, evF, evE, evFs, evEs, evO, rb, ro, get0, getS, dr_int, dr_lst, dr_bl, dr_tup, dr_non, dr_str, t_bl, fr_int, fr_bl, fr_str, fr_non, fr_tup, fr_nw, fr_fz, fr_ro, fr_ref, ou_int, ou_bl, ou_tup, ou_nw, ou_fz, ou_bw, ou_ref, ou_non, ou_str, ix_l, ix_t, b_add, b_sub, l_len, l_lent, atM_0, atM_1, atM_2, List.getElem?_cons_zero, List.getElem?_cons_succ, List.length_cons, List.length_nil, List.replicate, List.cons_append, List.nil_append, if_true, Bool.false_eq_true, map1, map2, if_false, szif (Nat.zero_le _), nx_s, so_l, so_d, sv_, bg_, get0o, l_abs, c_ge, c_lt, c_gt, c_le, sl_l, sl_t, it_f, it_t, bi_abs, bi_len, List.set_cons_zero, List.set_cons_succ, Nat.reduceAdd, Nat.reduceLT, Option.map_some, szif (by decide : 1 ≤ 16777216), szif (by decide : 2 ≤ 16777216), szif (by decide : 3 ≤ 16777216), szif (by decide : 4 ≤ 16777216), szif (by decide : 5 ≤ 16777216), szif (by decide : 6 ≤ 16777216), szif (by decide : 7 ≤ 16777216), szif (by decide : 8 ≤ 16777216), szif (by decide : 9 ≤ 16777216), bnd, sq_l, sq_t, wp_n, wp_c, bi_tuple, l_tpl, l_tpt])
namespace K13
end K13
end Q

/-! EwI: k13's law: what is due. -/
namespace Q
open PySem
local macro_rules
  | `(tactic| simp_arith [$as,*]) => `(tactic| simp only [$as,*, evSs, evS, evT, evF, evE, evFs, evEs, evO, rb, ro, get0, getS, dr_int, dr_lst, dr_bl, dr_tup, dr_non, dr_str, t_bl, fr_int, fr_bl, fr_str, fr_non, fr_tup, fr_nw, fr_fz, fr_ro, fr_ref, ou_int, ou_bl, ou_tup, ou_nw, ou_fz, ou_bw, ou_ref, ou_non, ou_str, ix_l, ix_t, b_add, b_sub, l_len, l_lent, atM_0, atM_1, atM_2, List.getElem?_cons_zero, List.getElem?_cons_succ, List.length_cons, List.length_nil, List.replicate, List.cons_append, List.nil_append, if_true, Bool.false_eq_true, map1, map2, if_false, szif (Nat.zero_le _), nx_s, so_l, so_d, sv_, bg_, get0o, l_abs, c_ge, c_lt, c_gt, c_le, sl_l, sl_t, it_f, it_t, bi_abs, bi_len, List.set_cons_zero, List.set_cons_succ, Nat.reduceAdd, Nat.reduceLT, Option.map_some, szif (by decide : 1 ≤ 16777216), szif (by decide : 2 ≤ 16777216), szif (by decide : 3 ≤ 16777216), szif (by decide : 4 ≤ 16777216), szif (by decide : 5 ≤ 16777216), szif (by decide : 6 ≤ 16777216), szif (by decide : 7 ≤ 16777216), szif (by decide : 8 ≤ 16777216), szif (by decide : 9 ≤ 16777216), bnd, sq_l, sq_t, wp_n, wp_c, bi_tuple, l_tpl, l_tpt])
theorem l_zip (xs ys : List MV) : evBi .zip [.tup xs, .tup ys] = some (.lst .nw (zipF xs ys)) := rfl
theorem bi_zip : Bi.zip.it = true := rfl
namespace K13
theorem fm_some {α β : Type} (f : α → β) (xs : List α) : xs.filterMap (fun x => some (f x)) = xs.map f := congrFun List.filterMap_eq_map' xs
end K13
end Q

/-! EvRp: what is shown: how long it is, that its signs are some. -/
namespace Q
open PySem
def okS (s : Str) : Prop := ∀ c ∈ s.cps.toList, c < 0x110000
end Q

/-! EwJ: what is shown of values; values that may be anything plain. -/
namespace Q
open PySem
local macro_rules
  | `(tactic| simp_arith [$as,*]) => `(tactic| simp only [$as,*, evSs, evS, evT, evF, evE, evFs, evEs, evO, rb, ro, get0, getS, dr_int, dr_lst, dr_bl, dr_tup, dr_non, dr_str, t_bl, fr_int, fr_bl, fr_str, fr_non, fr_tup, fr_nw, fr_fz, fr_ro, fr_ref, ou_int, ou_bl, ou_tup, ou_nw, ou_fz, ou_bw, ou_ref, ou_non, ou_str, ix_l, ix_t, b_add, b_sub, l_len, l_lent, atM_0, atM_1, atM_2, List.getElem?_cons_zero, List.getElem?_cons_succ, List.length_cons, List.length_nil, List.replicate, List.cons_append, List.nil_append, if_true, Bool.false_eq_true, map1, map2, if_false, szif (Nat.zero_le _), nx_s, so_l, so_d, sv_, bg_, get0o, l_abs, c_ge, c_lt, c_gt, c_le, sl_l, sl_t, it_f, it_t, bi_abs, bi_len, List.set_cons_zero, List.set_cons_succ, Nat.reduceAdd, Nat.reduceLT, Option.map_some, szif (by decide : 1 ≤ 16777216), szif (by decide : 2 ≤ 16777216), szif (by decide : 3 ≤ 16777216), szif (by decide : 4 ≤ 16777216), szif (by decide : 5 ≤ 16777216), szif (by decide : 6 ≤ 16777216), szif (by decide : 7 ≤ 16777216), szif (by decide : 8 ≤ 16777216), szif (by decide : 9 ≤ 16777216), bnd, sq_l, sq_t, wp_n, wp_c, bi_tuple, l_tpl, l_tpt])
/-- can be shown, its weight -/
structure Rp (d w : Nat) (v : MV) : Prop where
  shr : v.shr d = true
  lv : PyData.leavesShort 13 v.py = true
  wt : v.py.weight ≤ w
  ok : okS v.py.shown
theorem Rp.mono {d a b : Nat} {v : MV} (h : Rp d a v) (hab : a ≤ b) : Rp d b v := ⟨h.shr, h.lv, Nat.le_trans h.wt hab, h.ok⟩
/-! anything plain -/
def MV.pl : MV → Bool
  | .lst .fz _ => true
  | .dct .fz _ _ => true
  | .lst _ _ => false
  | .dct _ _ _ => false
  | .st _ _ => false
  | .ref _ => false
  | _ => true
theorem pl_frz {v : MV} (h : v.pl = true) : v.frz = some v := by
  cases v with
  | lst k xs => cases k <;> first | rfl | cases h
  | dct k t xs => cases k <;> first | rfl | cases h
  | st k xs => cases h
  | ref n => rfl
  | _ => rfl
theorem pl_out {v : MV} (h : v.pl = true) : v.out = v := by
  cases v with
  | lst k xs => cases k <;> first | rfl | cases h
  | dct k t xs => cases k <;> first | rfl | cases h
  | st k xs => cases h
  | ref n => rfl
  | _ => rfl
def MV.isI : MV → Bool
  | .int _ => true
  | _ => false
def MV.isB : MV → Bool
  | .bl _ => true
  | _ => false
def MV.isT : MV → Bool
  | .tup _ => true
  | _ => false
theorem ty_int {T : Tab} {M : Store} {v : MV} (h : v.pl = true) : isTy T M v .int = some (v.isI || v.isB) := by
  cases v with
  | ref n => cases h
  | st k xs => cases h
  | _ => rfl
theorem ty_bool {T : Tab} {M : Store} {v : MV} (h : v.pl = true) : isTy T M v .bool = some v.isB := by
  cases v with
  | ref n => cases h
  | st k xs => cases h
  | _ => rfl
theorem ty_tup {T : Tab} {M : Store} {v : MV} (h : v.pl = true) : isTy T M v .tup = some v.isT := by
  cases v with
  | ref n => cases h
  | st k xs => cases h
  | _ => rfl
theorem eqvL_nil (xs : List MV) : MV.eqv (.lst .nw xs) (.lst .nw []) = xs.isEmpty := by
  cases xs with
  | nil => simp [MV.eqv, MV.py, MV.pyL, PyData.eqv, PyData.eqvAll]
  | cons x xs =>
    have := pyL_nil (x :: xs) (by simp)
    simp only [MV.eqv, MV.py]
    rw [show MV.pyL [] = [] from rfl, this]
    rfl
theorem shp_mono {d : Nat} {v : MV} (h : v.shp d = true) : v.shp (d + 1) = true := by
  induction d generalizing v with
  | zero => cases v <;> first | exact h | cases h
  | succ d ih =>
    cases v with
    | tup xs => exact List.all_eq_true.mpr fun x hx => ih (List.all_eq_true.mp (show xs.all (MV.shp d) = true from h) x hx)
    | lst k xs => exact List.all_eq_true.mpr fun x hx => ih (List.all_eq_true.mp (show xs.all (MV.shp d) = true from h) x hx)
    | _ => first | exact h | cases h
end Q

/-! EwK: k13: what has a standing's form; odd things. -/
namespace Q
open PySem
local macro_rules
  | `(tactic| simp_arith [$as,*]) => `(tactic| simp only [$as,*, evSs, evS, evT, evF, evE, evFs, evEs, evO, rb, ro, get0, getS, dr_int, dr_lst, dr_bl, dr_tup, dr_non, dr_str, t_bl, fr_int, fr_bl, fr_str, fr_non, fr_tup, fr_nw, fr_fz, fr_ro, fr_ref, ou_int, ou_bl, ou_tup, ou_nw, ou_fz, ou_bw, ou_ref, ou_non, ou_str, ix_l, ix_t, b_add, b_sub, l_len, l_lent, atM_0, atM_1, atM_2, List.getElem?_cons_zero, List.getElem?_cons_succ, List.length_cons, List.length_nil, List.replicate, List.cons_append, List.nil_append, if_true, Bool.false_eq_true, map1, map2, if_false, szif (Nat.zero_le _), nx_s, so_l, so_d, sv_, bg_, get0o, l_abs, c_ge, c_lt, c_gt, c_le, sl_l, sl_t, it_f, it_t, bi_abs, bi_len, List.set_cons_zero, List.set_cons_succ, Nat.reduceAdd, Nat.reduceLT, Option.map_some, szif (by decide : 1 ≤ 16777216), szif (by decide : 2 ≤ 16777216), szif (by decide : 3 ≤ 16777216), szif (by decide : 4 ≤ 16777216), szif (by decide : 5 ≤ 16777216), szif (by decide : 6 ≤ 16777216), szif (by decide : 7 ≤ 16777216), szif (by decide : 8 ≤ 16777216), szif (by decide : 9 ≤ 16777216), bnd, sq_l, sq_t, wp_n, wp_c, bi_tuple, l_tpl, l_tpt])
theorem c_nei (i j : Int) : cmpM .ne (.int i) (.int j) = some (!(i == j)) := rfl
theorem bools_mapg {α : Type} (g : α → Bool) (js : List α) : boolsOf (js.map fun x => MV.bl (g x)) = some (js.map g) := by
  induction js with
  | nil => rfl
  | cons j js ih => rw [List.map_cons, List.map_cons]; unfold boolsOf; rw [ih]
theorem l_all {α : Type} (k : Kd) (g : α → Bool) (js : List α) : evBi .all [.lst k (js.map fun x => MV.bl (g x))] = some (.bl (js.all g)) := by
  show (boolsOf _).map _ = _
  rw [bools_mapg]
  show some (MV.bl ((js.map g).all id)) = _
  rw [List.all_map]
  rfl
theorem cut_mem {α : Type} {xs : List α} {lo hi : Option Int} {x : α} (h : x ∈ cutM xs lo hi) : x ∈ xs := List.mem_of_mem_drop (List.mem_of_mem_take h)
theorem cut_len {α : Type} (xs : List α) (lo hi : Option Int) : (cutM xs lo hi).length ≤ xs.length := by
  unfold cutM
  rw [List.length_take, List.length_drop]
  omega
theorem l_list (xs : List MV) : evBi .list [.tup xs] = some (.lst .nw xs) := rfl
theorem whole_any {T : Tab} {d f : Nat} {M : Store} {v : MV} (hT : T.fn f = some K13.fdWhole) (h : v.pl = true) : evC T (d + 1) f [v] M = .ok (.bl v.isI) M := by
  refine sat_eq (sat_call [some (.v v)] hT rfl rfl ?_)
  cases hi : v.isI <;> cases hb : v.isB <;> simp_arith [K13.fdWhole, ty_int h, ty_bool h, hi, hb, Bool.or_true, Bool.or_false, Bool.or_self, Bool.not_true, Bool.not_false] <;> first | exact sat_ok ⟨rfl, rfl⟩ | (cases v <;> first | (cases hi; done) | (cases hb; done))
namespace K13
end K13
end Q

/-! EwL: k13: the doors. -/
namespace Q
open PySem
local macro_rules
  | `(tactic| simp_arith [$as,*]) => `(tactic| simp only [$as,*, evSs, evS, evT, evF, evE, evFs, evEs, evO, rb, ro, get0, getS, dr_int, dr_lst, dr_bl, dr_tup, dr_non, dr_str, t_bl, fr_int, fr_bl, fr_str, fr_non, fr_tup, fr_nw, fr_fz, fr_ro, fr_ref, ou_int, ou_bl, ou_tup, ou_nw, ou_fz, ou_bw, ou_ref, ou_non, ou_str, ix_l, ix_t, b_add, b_sub, l_len, l_lent, atM_0, atM_1, atM_2, List.getElem?_cons_zero, List.getElem?_cons_succ, List.length_cons, List.length_nil, List.replicate, List.cons_append, List.nil_append, if_true, Bool.false_eq_true, map1, map2, if_false, szif (Nat.zero_le _), nx_s, so_l, so_d, sv_, bg_, get0o, l_abs, c_ge, c_lt, c_gt, c_le, sl_l, sl_t, it_f, it_t, bi_abs, bi_len, List.set_cons_zero, List.set_cons_succ, Nat.reduceAdd, Nat.reduceLT, Option.map_some, szif (by decide : 1 ≤ 16777216), szif (by decide : 2 ≤ 16777216), szif (by decide : 3 ≤ 16777216), szif (by decide : 4 ≤ 16777216), szif (by decide : 5 ≤ 16777216), szif (by decide : 6 ≤ 16777216), szif (by decide : 7 ≤ 16777216), szif (by decide : 8 ≤ 16777216), szif (by decide : 9 ≤ 16777216), bnd, sq_l, sq_t, wp_n, wp_c, bi_tuple, l_tpl, l_tpt])
namespace K13
end K13
end Q

/-! EwM: k13: the law. -/
namespace Q
open PySem
local macro_rules
  | `(tactic| simp_arith [$as,*]) => `(tactic| simp only [$as,*, evSs, evS, evT, evF, evE, evFs, evEs, evO, rb, ro, get0, getS, dr_int, dr_lst, dr_bl, dr_tup, dr_non, dr_str, t_bl, fr_int, fr_bl, fr_str, fr_non, fr_tup, fr_nw, fr_fz, fr_ro, fr_ref, ou_int, ou_bl, ou_tup, ou_nw, ou_fz, ou_bw, ou_ref, ou_non, ou_str, ix_l, ix_t, b_add, b_sub, l_len, l_lent, atM_0, atM_1, atM_2, List.getElem?_cons_zero, List.getElem?_cons_succ, List.length_cons, List.length_nil, List.replicate, List.cons_append, List.nil_append, if_true, Bool.false_eq_true, map1, map2, if_false, szif (Nat.zero_le _), nx_s, so_l, so_d, sv_, bg_, get0o, l_abs, c_ge, c_lt, c_gt, c_le, sl_l, sl_t, it_f, it_t, bi_abs, bi_len, List.set_cons_zero, List.set_cons_succ, Nat.reduceAdd, Nat.reduceLT, Option.map_some, szif (by decide : 1 ≤ 16777216), szif (by decide : 2 ≤ 16777216), szif (by decide : 3 ≤ 16777216), szif (by decide : 4 ≤ 16777216), szif (by decide : 5 ≤ 16777216), szif (by decide : 6 ≤ 16777216), szif (by decide : 7 ≤ 16777216), szif (by decide : 8 ≤ 16777216), szif (by decide : 9 ≤ 16777216), bnd, sq_l, sq_t, wp_n, wp_c, bi_tuple, l_tpl, l_tpt])
/-- a loop, its body as it stands -/
theorem sat_forr {T : Tab} {cl : Nat → List MV → Store → Res MV} {g : G} {it : E} {b : List S} {ρ : Env} {M M1 : Store} {v : MV} {xs : List MV} {P : Out × Env → Store → Prop} (I : List MV → Env → Store → Prop) (hi : evF T cl it ρ M = .ok v M1) (hx : itemsOf v = some xs) (h0 : I xs ρ M1)
    (hs : ∀ x xs ρ M, I (x :: xs) ρ M → ∃ ρ1, bindG g x ρ = some ρ1 ∧ (evSs T cl b ρ1 M).Sat fun r M' => match r.1 with | .nx => I xs r.2 M' | .ct => I xs r.2 M' | .brk => P (.nx, r.2) M' | .ret v => P (.ret v, r.2) M')
    (he : ∀ ρ M, I [] ρ M → P (.nx, ρ) M) : (evS T cl (.forr g it b) ρ M).Sat P := by
  simp only [evS]
  rw [hi]
  show ((ofO (itemsOf v) M1).bind _).Sat P
  rw [hx]
  show (forL _ xs ρ M1).Sat P
  refine sat_for I h0 (fun x xs ρ M h => ?_) he
  obtain ⟨ρ1, e, h⟩ := hs x xs ρ M h
  rw [e]
  exact h
theorem Dk.same {M M' : Store} {b : Nat} (h : Dk M b) (h0 : M'.ob 0 = M.ob 0) (h1 : M'.ob 1 = M.ob 1) : Dk M' b := by
  obtain ⟨ds, cs, k, a, c, r⟩ := h.ex
  exact ⟨ds, cs, k, h0.trans a, h1.trans c, r⟩
namespace K13
section
variable {T : Tab} {js : List (Int × Int)} {v : MV} {a b c e f g y : Option SV} {M : Store} {d : Nat}
end
end K13
end Q

/-! EwN: what the given tasks' laws share: numbers within, rising rows, what is demanded, doors. -/
namespace Q
open PySem
local macro_rules
  | `(tactic| simp_arith [$as,*]) => `(tactic| simp only [$as,*, evSs, evS, evT, evF, evE, evFs, evEs, evO, rb, ro, get0, getS, dr_int, dr_lst, dr_bl, dr_tup, dr_non, dr_str, t_bl, fr_int, fr_bl, fr_str, fr_non, fr_tup, fr_nw, fr_fz, fr_ro, fr_ref, ou_int, ou_bl, ou_tup, ou_nw, ou_fz, ou_bw, ou_ref, ou_non, ou_str, ix_l, ix_t, b_add, b_sub, l_len, l_lent, atM_0, atM_1, atM_2, List.getElem?_cons_zero, List.getElem?_cons_succ, List.length_cons, List.length_nil, List.replicate, List.cons_append, List.nil_append, if_true, Bool.false_eq_true, map1, map2, if_false, szif (Nat.zero_le _), nx_s, so_l, so_d, sv_, bg_, get0o, l_abs, c_ge, c_lt, c_gt, c_le, sl_l, sl_t, it_f, it_t, bi_abs, bi_len, List.set_cons_zero, List.set_cons_succ, Nat.reduceAdd, Nat.reduceLT, Option.map_some, szif (by decide : 1 ≤ 16777216), szif (by decide : 2 ≤ 16777216), szif (by decide : 3 ≤ 16777216), szif (by decide : 4 ≤ 16777216), szif (by decide : 5 ≤ 16777216), szif (by decide : 6 ≤ 16777216), szif (by decide : 7 ≤ 16777216), szif (by decide : 8 ≤ 16777216), szif (by decide : 9 ≤ 16777216), bnd, sq_l, sq_t, wp_n, wp_c, bi_tuple, l_tpl, l_tpt])
theorem put_put (M : Store) (n : Nat) (a b : MObj) : (M.put n a).put n b = M.put n b := by
  unfold Store.put
  congr 1
  funext m
  by_cases h : m = n
  · simp [h]
  · simp [h]
theorem ins_put (M : Store) (n C : Nat) (fs : List (Nat × MV)) : insOf (M.put n (.ins C fs)) (.ref n) = some (n, C, fs) := ins_r ob_put
theorem len_range {k : Int} (h : 0 ≤ k) : ((rangeL 0 k).length : Int) = k := by
  unfold rangeL
  rw [List.length_map, List.length_range]
  omega
end Q

/-! ExB: a told task's data, by the law's own draws: classes, rests. -/
namespace Q
open PySem
local macro_rules
  | `(tactic| simp_arith [$as,*]) => `(tactic| simp only [$as,*, evSs, evS, evT, evF, evE, evFs, evEs, evO, rb, ro, get0, getS, dr_int, dr_lst, dr_bl, dr_tup, dr_non, dr_str, t_bl, fr_int, fr_bl, fr_str, fr_non, fr_tup, fr_nw, fr_fz, fr_ro, fr_ref, ou_int, ou_bl, ou_tup, ou_nw, ou_fz, ou_bw, ou_ref, ou_non, ou_str, ix_l, ix_t, b_add, b_sub, l_len, l_lent, atM_0, atM_1, atM_2, List.getElem?_cons_zero, List.getElem?_cons_succ, List.length_cons, List.length_nil, List.replicate, List.cons_append, List.nil_append, if_true, Bool.false_eq_true, map1, map2, if_false, szif (Nat.zero_le _), nx_s, so_l, so_d, sv_, bg_, get0o, l_abs, c_ge, c_lt, c_gt, c_le, sl_l, sl_t, it_f, it_t, bi_abs, bi_len, List.set_cons_zero, List.set_cons_succ, Nat.reduceAdd, Nat.reduceLT, Option.map_some, szif (by decide : 1 ≤ 16777216), szif (by decide : 2 ≤ 16777216), szif (by decide : 3 ≤ 16777216), szif (by decide : 4 ≤ 16777216), szif (by decide : 5 ≤ 16777216), szif (by decide : 6 ≤ 16777216), szif (by decide : 7 ≤ 16777216), szif (by decide : 8 ≤ 16777216), szif (by decide : 9 ≤ 16777216), bnd, sq_l, sq_t, wp_n, wp_c, bi_tuple, l_tpl, l_tpt])
theorem l_intbQ (b : Bool) : evBi .int [.bl b] = some (.int (if b then 1 else 0)) := rfl
theorem bi_intQ : Bi.int.it = false := rfl
namespace TK
def fdClasses : Fd := ⟨2, 11, [.set 2 (.bin .add (.con (.int 2)) (.bin .mod (.call 24 (.cons (.var 0) (.nil))) (.bin .sub (.var 1) (.con (.int 1))))), .set 3 (.idx (.lst (.cons (.lst (.cons (.con (.int 0)) (.cons (.con (.int 1)) (.cons (.con (.int 1)) (.cons (.con (.int 2)) (.cons (.con (.int 3)) (.cons (.con (.int 5)) (.nil)))))))) (.cons (.lst (.cons (.con (.int 1)) (.cons (.con (.int 1)) (.cons (.con (.int 1)) (.cons (.con (.int 1)) (.nil)))))) (.cons (.lst (.cons (.con (.int 0)) (.cons (.con (.int 0)) (.cons (.con (.int 1)) (.cons (.con (.int 9)) (.nil)))))) (.cons (.lst (.cons (.con (.int 1)) (.cons (.con (.int 2)) (.cons (.con (.int 3)) (.cons (.con (.int 4)) (.cons (.con (.int 7)) (.cons (.con (.int 9)) (.nil)))))))) (.nil)))))) (.bin .mod (.call 24 (.cons (.var 0) (.nil))) (.con (.int 4)))), .own 4 (.lst (.nil)), .forr (.nm 5) (.bi .range1 (.cons (.var 2) (.nil))) [.set 6 (.call 24 (.cons (.var 0) (.nil))), .set 7 (.idx (.lst (.cons (.cmp .eq (.bin .mod (.var 6) (.con (.int 12))) (.con (.int 0))) (.cons (.cmp .eq (.bin .mod (.var 6) (.con (.int 4))) (.con (.int 0))) (.nil)))) (.bi .int (.cons (.cmp .gt (.var 5) (.con (.int 0))) (.nil)))), .own 8 (.lst (.nil)), .forr (.nm 9) (.bi .range1 (.cons (.idx (.lst (.cons (.con (.int 1)) (.cons (.con (.int 2)) (.cons (.con (.int 2)) (.cons (.con (.int 3)) (.cons (.con (.int 0)) (.cons (.con (.int 3)) (.cons (.con (.int 4)) (.nil))))))))) (.bin .mod (.bin .fdiv (.var 6) (.con (.int 12))) (.con (.int 7)))) (.nil))) [.set 10 (.call 24 (.cons (.var 0) (.nil))), .app 8 (.tup (.cons (.idx (.var 3) (.bin .mod (.var 10) (.bi .len (.cons (.var 3) (.nil))))) (.cons (.bin .mod (.bin .fdiv (.var 10) (.con (.int 8))) (.var 2)) (.nil))))], .frz 8, .app 4 (.tup (.cons (.var 7) (.cons (.var 8) (.nil))))], .ret (.var 4)]⟩
def fdRests : Fd := ⟨1, 9, [.own 1 (.lc (.idx (.lst (.cons (.con (.non)) (.cons (.con (.int 0)) (.nil)))) (.bi .int (.cons (.idx (.var 2) (.con (.int 0))) (.nil)))) [2] (.nm 2) (.var 0) (.con (.bl true))), .forr (.nm 3) (.var 0) [.forr (.tup [.nm 4, .tup [.nm 5, .nm 6]]) (.bi .enum (.cons (.var 0) (.nil))) [.forr (.tup [.nm 7, .nm 8]) (.var 6) [.iff (.andd (.nt (.var 5)) (.cmp .notN (.idx (.var 1) (.var 8)) (.con (.non)))) [.iff (.orr (.cmp .isN (.idx (.var 1) (.var 4)) (.con (.non))) (.cmp .lt (.bin .add (.var 7) (.idx (.var 1) (.var 8))) (.idx (.var 1) (.var 4)))) [.setI 1 (.var 4) (.bin .add (.var 7) (.idx (.var 1) (.var 8)))] []] []]]], .ret (.var 1)]⟩
abbrev Cls := Bool × List (Int × Nat)
def pairM (p : Int × Nat) : MV := .tup [.int p.1, .int (p.2 : Int)]
def pairsM (ps : List (Int × Nat)) : MV := .lst .fz (ps.map pairM)
def classM (c : Cls) : MV := .tup [.bl c.1, pairsM c.2]
def classesM (cs : List Cls) : MV := .lst .fz (cs.map classM)
structure CsOk (most : Int) (cs : List Cls) : Prop where
  l : 2 ≤ cs.length ∧ (cs.length : Int) ≤ most
  c : ∀ c ∈ cs, c.2.length ≤ 4 ∧ ∀ p ∈ c.2, 0 ≤ p.1 ∧ p.1 ≤ 9 ∧ p.2 < cs.length
theorem classes_ok {T : Tab} {d b : Nat} {M : Store} {most : Int} (h38 : T.fn 38 = some fdClasses) (hN : T.fn 24 = some fdNext) (hm : 2 ≤ most ∧ most ≤ 6) (h : Dk M b) (hb : b < 900000) :
    (evC T (d + 2) 38 [.ref 1, .int most] M).Sat fun v M' => ∃ cs : List Cls, v = classesM cs ∧ CsOk most cs ∧ Dk M' (b + 40) ∧ Off M M' := by
  obtain ⟨_, M1, e1, i1, rfl, hi1, hD1, hO1⟩ := next_ok (d := d) hN h (by omega)
  obtain ⟨_, M2, e2, i2, rfl, hi2, hD2, hO2⟩ := next_ok (d := d) hN hD1 (by omega)
  obtain ⟨m, hmm⟩ : ∃ m : Int, m = 2 + i1 % (most - 1) := ⟨_, rfl⟩
  have hm1 : 2 ≤ m ∧ m ≤ most := by
    have h0 := Int.emod_nonneg i1 (show most - 1 ≠ 0 by omega)
    have h1 := Int.emod_lt_of_pos i1 (show 0 < most - 1 by omega)
    omega
  obtain ⟨cs, hcs, hcx, hc0, hcb⟩ : ∃ cs : List Int, atM [MV.lst .fz [.int 0, .int 1, .int 1, .int 2, .int 3, .int 5], MV.lst .fz [.int 1, .int 1, .int 1, .int 1], MV.lst .fz [.int 0, .int 0, .int 1, .int 9], MV.lst .fz [.int 1, .int 2, .int 3, .int 4, .int 7, .int 9]] (i2 % 4) = some (.lst .fz (cs.map .int)) ∧ True ∧ cs ≠ [] ∧ ∀ c ∈ cs, 0 ≤ c ∧ c ≤ 9 := by
    have h0 := Int.emod_nonneg i2 (show (4 : Int) ≠ 0 by decide)
    have h1 := Int.emod_lt_of_pos i2 (show (0 : Int) < 4 by decide)
    generalize i2 % 4 = k at h0 h1
    obtain rfl | rfl | rfl | rfl : k = 0 ∨ k = 1 ∨ k = 2 ∨ k = 3 := by omega
    · exact ⟨[0, 1, 1, 2, 3, 5], rfl, trivial, List.cons_ne_nil _ _, by decide⟩
    · exact ⟨[1, 1, 1, 1], rfl, trivial, List.cons_ne_nil _ _, by decide⟩
    · exact ⟨[0, 0, 1, 9], rfl, trivial, List.cons_ne_nil _ _, by decide⟩
    · exact ⟨[1, 2, 3, 4, 7, 9], rfl, trivial, List.cons_ne_nil _ _, by decide⟩
  refine sat_call [some (.v (.ref 1)), some (.v (.int most)), none, none, none, none, none, none, none, none, none] h38 rfl rfl ?_
  simp only [fdClasses]
  refine sat_next (ρ1 := [some (.v (.ref 1)), some (.v (.int most)), some (.v (.int m)), none, none, none, none, none, none, none, none]) (M1 := M1) (by simp_arith [e1, b_mod i1 (most - 1) (by omega), ← hmm]) ?_
  refine sat_next (ρ1 := [some (.v (.ref 1)), some (.v (.int most)), some (.v (.int m)), some (.v (.lst .fz (cs.map .int))), none, none, none, none, none, none, none]) (M1 := M2) (by simp_arith [e2, b_mod i2 4 (by decide), hcs]) ?_
  refine sat_next (ρ1 := [some (.v (.ref 1)), some (.v (.int most)), some (.v (.int m)), some (.v (.lst .fz (cs.map .int))), some (.ol []), none, none, none, none, none, none]) (M1 := M2) (by simp_arith [evSs]) ?_
  refine sat_cons (R := fun r M' => ∃ (fs : List Cls) (y5 y6 y7 y8 y9 y10 : Option SV), r = (.nx, [some (.v (.ref 1)), some (.v (.int most)), some (.v (.int m)), some (.v (.lst .fz (cs.map .int))), some (.ol (fs.map classM)), y5, y6, y7, y8, y9, y10]) ∧ (fs.length : Int) = m ∧ (∀ c ∈ fs, c.2.length ≤ 4 ∧ ∀ p ∈ c.2, 0 ≤ p.1 ∧ p.1 ≤ 9 ∧ (p.2 : Int) < m) ∧ Dk M' (b + 40) ∧ Off M M') ?_ ?_
  · refine sat_forr (v := .lst .fz (rangeL 0 m)) (xs := rangeL 0 m) (M1 := M2) (fun (xs : List MV) (ρ : Env) (M' : Store) => ∃ (fs : List Cls) (y5 y6 y7 y8 y9 y10 : Option SV) (k : Nat), xs = ((List.range' k xs.length).map fun (j : Nat) => MV.int (0 + (j : Int))) ∧ ρ = [some (.v (.ref 1)), some (.v (.int most)), some (.v (.int m)), some (.v (.lst .fz (cs.map .int))), some (.ol (fs.map classM)), y5, y6, y7, y8, y9, y10] ∧ (fs.length : Int) + xs.length = m ∧ (∀ c ∈ fs, c.2.length ≤ 4 ∧ ∀ p ∈ c.2, 0 ≤ p.1 ∧ p.1 ≤ 9 ∧ (p.2 : Int) < m) ∧ Dk M' (b + 2 + 5 * fs.length) ∧ Off M M') (by simp_arith [bi_r1, l_r1 m (by omega)]) rfl ?_ ?_ ?_
    · refine ⟨[], none, none, none, none, none, none, 0, ?_, rfl, by rw [len_range (by omega)]; simp, (fun _ h => nomatch h), hD2, hO1.trans hO2⟩
      unfold rangeL
      rw [List.length_map, List.length_range, List.range_eq_range']
    · rintro x xs ρ M' ⟨fs, y5, y6, y7, y8, y9, y10, k, hx, rfl, hl, hf, hD, hO⟩
      rw [List.length_cons, List.range'_succ, List.map_cons] at hx
      obtain ⟨rfl, hxs⟩ := List.cons.inj hx
      rw [List.length_cons] at hl
      obtain ⟨_, M5, e5, n, rfl, hn, hD5, hO5⟩ := next_ok (d := d) hN hD (by omega)
      refine ⟨[some (.v (.ref 1)), some (.v (.int most)), some (.v (.int m)), some (.v (.lst .fz (cs.map .int))), some (.ol (fs.map classM)), some (.v (.int (0 + (k : Int)))), y6, y7, y8, y9, y10], rfl, ?_⟩
      refine sat_next (ρ1 := [some (.v (.ref 1)), some (.v (.int most)), some (.v (.int m)), some (.v (.lst .fz (cs.map .int))), some (.ol (fs.map classM)), some (.v (.int (0 + (k : Int)))), some (.v (.int n)), y7, y8, y9, y10]) (M1 := M5) (by simp_arith [e5]) ?_
      obtain ⟨dn, hdn⟩ : ∃ dn : Bool, atM [MV.bl (n % 12 == 0), MV.bl (n % 4 == 0)] (if (decide (0 < 0 + (k : Int))) = true then 1 else 0) = some (.bl dn) := by
        by_cases hk : (decide (0 < 0 + (k : Int))) = true
        · rw [if_pos hk]; exact ⟨_, rfl⟩
        · rw [if_neg hk]; exact ⟨_, rfl⟩
      refine sat_next (ρ1 := [some (.v (.ref 1)), some (.v (.int most)), some (.v (.int m)), some (.v (.lst .fz (cs.map .int))), some (.ol (fs.map classM)), some (.v (.int (0 + (k : Int)))), some (.v (.int n)), some (.v (.bl dn)), y8, y9, y10]) (M1 := M5) (by simp_arith [b_mod n 12 (by decide), b_mod n 4 (by decide), c_eqi, l_intbQ, bi_intQ, hdn]) ?_
      refine sat_next (ρ1 := [some (.v (.ref 1)), some (.v (.int most)), some (.v (.int m)), some (.v (.lst .fz (cs.map .int))), some (.ol (fs.map classM)), some (.v (.int (0 + (k : Int)))), some (.v (.int n)), some (.v (.bl dn)), some (.ol []), y9, y10]) (M1 := M5) (by simp_arith [evSs]) ?_
      obtain ⟨q, hq, hq4⟩ : ∃ q : Int, atM [MV.int 1, MV.int 2, MV.int 2, MV.int 3, MV.int 0, MV.int 3, MV.int 4] (n / 12 % 7) = some (.int q) ∧ 0 ≤ q ∧ q ≤ 4 := by
        have h0 := Int.emod_nonneg (n / 12) (show (7 : Int) ≠ 0 by decide)
        have h1 := Int.emod_lt_of_pos (n / 12) (show (0 : Int) < 7 by decide)
        generalize n / 12 % 7 = j at h0 h1
        obtain rfl | rfl | rfl | rfl | rfl | rfl | rfl : j = 0 ∨ j = 1 ∨ j = 2 ∨ j = 3 ∨ j = 4 ∨ j = 5 ∨ j = 6 := by omega
        · exact ⟨1, rfl, by decide⟩
        · exact ⟨2, rfl, by decide⟩
        · exact ⟨2, rfl, by decide⟩
        · exact ⟨3, rfl, by decide⟩
        · exact ⟨0, rfl, by decide⟩
        · exact ⟨3, rfl, by decide⟩
        · exact ⟨4, rfl, by decide⟩
      refine sat_cons (R := fun r M6 => ∃ (ps : List (Int × Nat)) (y9 y10 : Option SV), r = (.nx, [some (.v (.ref 1)), some (.v (.int most)), some (.v (.int m)), some (.v (.lst .fz (cs.map .int))), some (.ol (fs.map classM)), some (.v (.int (0 + (k : Int)))), some (.v (.int n)), some (.v (.bl dn)), some (.ol (ps.map pairM)), y9, y10]) ∧ ps.length ≤ 4 ∧ (∀ p ∈ ps, 0 ≤ p.1 ∧ p.1 ≤ 9 ∧ (p.2 : Int) < m) ∧ Dk M6 (b + 2 + 5 * fs.length + 5) ∧ Off M M6) ?_ ?_
      · refine sat_forr (v := .lst .fz (rangeL 0 q)) (xs := rangeL 0 q) (M1 := M5) (fun (xs : List MV) (ρ : Env) (M6 : Store) => ∃ (ps : List (Int × Nat)) (y9 y10 : Option SV), ρ = [some (.v (.ref 1)), some (.v (.int most)), some (.v (.int m)), some (.v (.lst .fz (cs.map .int))), some (.ol (fs.map classM)), some (.v (.int (0 + (k : Int)))), some (.v (.int n)), some (.v (.bl dn)), some (.ol (ps.map pairM)), y9, y10] ∧ (ps.length : Int) + xs.length = q ∧ (∀ p ∈ ps, 0 ≤ p.1 ∧ p.1 ≤ 9 ∧ (p.2 : Int) < m) ∧ Dk M6 (b + 2 + 5 * fs.length + 1 + ps.length) ∧ Off M M6) (by simp_arith [b_div n 12 (by decide), b_mod (n / 12) 7 (by decide), hq, bi_r1, l_r1 q (by omega)]) rfl ?_ ?_ ?_
        · exact ⟨[], y9, y10, rfl, by rw [len_range hq4.1]; simp, (fun _ h => nomatch h), hD5, hO.trans hO5⟩
        · rintro x' xs' ρ M6 ⟨ps, y9, y10, rfl, hlp, hp, hD6, hO6⟩
          rw [List.length_cons] at hlp
          obtain ⟨_, M7, e7, v, rfl, hv, hD7, hO7⟩ := next_ok (d := d) hN hD6 (by omega)
          refine ⟨[some (.v (.ref 1)), some (.v (.int most)), some (.v (.int m)), some (.v (.lst .fz (cs.map .int))), some (.ol (fs.map classM)), some (.v (.int (0 + (k : Int)))), some (.v (.int n)), some (.v (.bl dn)), some (.ol (ps.map pairM)), some (.v x'), y10], rfl, ?_⟩
          refine sat_next (ρ1 := [some (.v (.ref 1)), some (.v (.int most)), some (.v (.int m)), some (.v (.lst .fz (cs.map .int))), some (.ol (fs.map classM)), some (.v (.int (0 + (k : Int)))), some (.v (.int n)), some (.v (.bl dn)), some (.ol (ps.map pairM)), some (.v x'), some (.v (.int v))]) (M1 := M7) (by simp_arith [e7]) ?_
          obtain ⟨c, hcm, hci⟩ := at_mod' (xs := cs) hc0 v
          have hci' : atM (cs.map MV.int) (v % ((cs.map MV.int).length : Int)) = some (.int c) := by
            have hl0 : 0 < cs.length := List.length_pos_iff.mpr hc0
            have h0 := Int.emod_nonneg v (show (cs.length : Int) ≠ 0 by omega)
            rw [List.length_map]
            obtain ⟨j, hj⟩ : ∃ j : Nat, v % (cs.length : Int) = j := ⟨_, (Int.toNat_of_nonneg h0).symm⟩
            rw [hj] at hci ⊢
            rw [atM_nat] at hci
            rw [atM_map, hci]
            rfl
          have hl0 : 0 < (cs.map MV.int).length := by rw [List.length_map]; exact List.length_pos_iff.mpr hc0
          have h80 := Int.emod_nonneg (v / 8) (show m ≠ 0 by omega)
          have h81 := Int.emod_lt_of_pos (v / 8) (show 0 < m by omega)
          obtain ⟨j, hj⟩ : ∃ j : Nat, v / 8 % m = j := ⟨_, (Int.toNat_of_nonneg h80).symm⟩
          have hlt : (ps.map pairM).length < SZ := by rw [List.length_map]; exact Nat.lt_of_lt_of_le (by omega : ps.length < 1000) (by decide)
          simp_arith [b_mod v _ (show (0 : Int) < ((cs.map MV.int).length : Int) by omega), hci', b_div v 8 (by decide), b_mod (v / 8) m (by omega), hj, if_pos hlt]
          refine sat_ok ⟨ps ++ [(c, j)], _, _, by rw [List.map_append]; rfl, by rw [List.length_append]; simp only [List.length_cons, List.length_nil]; omega, fun p h => ?_, by rw [List.length_append]; exact hD7, hO6.trans hO7⟩
          rcases List.mem_append.mp h with h | h
          · exact hp p h
          · rw [List.mem_singleton.mp h]; exact ⟨(hcb c hcm).1, (hcb c hcm).2, by show (j : Int) < m; omega⟩
        · rintro ρ M6 ⟨ps, y9, y10, rfl, hlp, hp, hD6, hO6⟩
          rw [List.length_nil] at hlp
          exact ⟨ps, y9, y10, rfl, by omega, hp, hD6.mono (by omega), hO6⟩
      rintro _ M6 ⟨ps, y9, y10, rfl, hpl, hp, hD6, hO6⟩
      show (evSs T (evC T (d + 1)) _ _ _).Sat _
      refine sat_next (ρ1 := [some (.v (.ref 1)), some (.v (.int most)), some (.v (.int m)), some (.v (.lst .fz (cs.map .int))), some (.ol (fs.map classM)), some (.v (.int (0 + (k : Int)))), some (.v (.int n)), some (.v (.bl dn)), some (.v (.lst .fz (ps.map pairM))), y9, y10]) (M1 := M6) (by simp_arith [evSs]) ?_
      have hlt : (fs.map classM).length < SZ := by rw [List.length_map]; exact Nat.lt_of_lt_of_le (by omega : fs.length < 1000) (by decide)
      simp_arith [if_pos hlt]
      refine sat_ok ⟨fs ++ [(dn, ps)], _, _, _, _, _, _, k + 1, hxs, by rw [List.map_append]; rfl, by rw [List.length_append]; simp only [List.length_cons, List.length_nil]; omega, fun c h => ?_, by rw [List.length_append]; exact hD6.mono (by simp only [List.length_cons, List.length_nil]; omega), hO6⟩
      rcases List.mem_append.mp h with h | h
      · exact hf c h
      · rw [List.mem_singleton.mp h]; exact ⟨hpl, hp⟩
    · rintro ρ M' ⟨fs, y5, y6, y7, y8, y9, y10, k, hx, rfl, hl, hf, hD, hO⟩
      rw [List.length_nil] at hl
      exact ⟨fs, y5, y6, y7, y8, y9, y10, rfl, by omega, hf, hD.mono (by omega), hO⟩
  rintro _ M3 ⟨fs, y5, y6, y7, y8, y9, y10, rfl, hl, hf, hD3, hO3⟩
  simp_arith [evSs]
  refine sat_ok ⟨fs, rfl, ⟨by omega, fun c hc => ⟨(hf c hc).1, fun p hp => ?_⟩⟩, hD3, hO3⟩
  have := (hf c hc).2 p hp
  exact ⟨this.1, this.2.1, by omega⟩
end TK
end Q

/-! ExC: a told task's data: rests. -/
namespace Q
open PySem
local macro_rules
  | `(tactic| simp_arith [$as,*]) => `(tactic| simp only [$as,*, evSs, evS, evT, evF, evE, evFs, evEs, evO, rb, ro, get0, getS, dr_int, dr_lst, dr_bl, dr_tup, dr_non, dr_str, t_bl, fr_int, fr_bl, fr_str, fr_non, fr_tup, fr_nw, fr_fz, fr_ro, fr_ref, ou_int, ou_bl, ou_tup, ou_nw, ou_fz, ou_bw, ou_ref, ou_non, ou_str, ix_l, ix_t, b_add, b_sub, l_len, l_lent, atM_0, atM_1, atM_2, List.getElem?_cons_zero, List.getElem?_cons_succ, List.length_cons, List.length_nil, List.replicate, List.cons_append, List.nil_append, if_true, Bool.false_eq_true, map1, map2, if_false, szif (Nat.zero_le _), nx_s, so_l, so_d, sv_, bg_, get0o, l_abs, c_ge, c_lt, c_gt, c_le, sl_l, sl_t, it_f, it_t, bi_abs, bi_len, List.set_cons_zero, List.set_cons_succ, Nat.reduceAdd, Nat.reduceLT, Option.map_some, szif (by decide : 1 ≤ 16777216), szif (by decide : 2 ≤ 16777216), szif (by decide : 3 ≤ 16777216), szif (by decide : 4 ≤ 16777216), szif (by decide : 5 ≤ 16777216), szif (by decide : 6 ≤ 16777216), szif (by decide : 7 ≤ 16777216), szif (by decide : 8 ≤ 16777216), szif (by decide : 9 ≤ 16777216), bnd, sq_l, sq_t, wp_n, wp_c, bi_tuple, l_tpl, l_tpt])
theorem l_enl (xs : List MV) : evBi .enum [.lst .fz xs] = some (.lst .nw (enumF 0 xs)) := rfl
theorem atK_nat' {α : Type} (xs : List α) (k : Nat) (h : k < xs.length) : atK xs (k : Int) = some k := by
  unfold atK
  rw [if_pos (by omega), Int.toNat_natCast, if_pos h]
theorem c_notNQ (v : MV) : cmpM .notN v .non = some (!v.isNon) := by cases v <;> rfl
theorem c_isNQ (v : MV) : cmpM .isN v .non = some v.isNon := by cases v <;> rfl
theorem en_mapQ {α : Type} (φ : α → MV) (k : Nat) (bs : List α) : enumF k (bs.map φ) = (bs.zipIdx k).map fun p => .tup [.int (p.2 : Int), φ p.1] := by
  induction bs generalizing k with
  | nil => rfl
  | cons b bs ih => rw [List.map_cons, List.zipIdx_cons, List.map_cons, ← ih]; rfl
namespace TK
def optM : Option Int → MV
  | none => .non
  | some x => .int x
theorem fr_opt (o : Option Int) : (optM o).frz = some (optM o) := by cases o <;> rfl
theorem dr_opt (o : Option Int) (M : Store) : (optM o).dr M = optM o := by cases o <;> rfl
theorem at_opt {r : List (Option Int)} {j : Nat} (h : j < r.length) : atM (r.map optM) (j : Int) = some (optM (r.getD j none)) := by
  rw [atM_map, List.getElem?_eq_getElem h, List.getD_eq_getElem?_getD, List.getElem?_eq_getElem h]
  rfl
def relax1 (k : Nat) (dn : Bool) (r : List (Option Int)) (p : Int × Nat) : List (Option Int) :=
  if dn then r else match r.getD p.2 none with
    | none => r
    | some x => match r.getD k none with
      | none => r.set k (some (p.1 + x))
      | some y => if p.1 + x < y then r.set k (some (p.1 + x)) else r
def relaxC (r : List (Option Int)) (o : Cls × Nat) : List (Option Int) := o.1.2.foldl (relax1 o.2 o.1.1) r
def passR (cs : List Cls) (r : List (Option Int)) : List (Option Int) := cs.zipIdx.foldl relaxC r
def rests0 (cs : List Cls) : List (Option Int) := cs.map fun c => if c.1 then some 0 else none
def restsF (cs : List Cls) : List (Option Int) := cs.foldl (fun r _ => passR cs r) (rests0 cs)
theorem relax1_len (k : Nat) (dn : Bool) (r : List (Option Int)) (p : Int × Nat) : (relax1 k dn r p).length = r.length := by
  unfold relax1
  split
  · rfl
  · split
    · rfl
    · split
      · rw [List.length_set]
      · split
        · rw [List.length_set]
        · rfl
theorem fold_inv {α β : Type} (P : α → Prop) {f : α → β → α} : ∀ (xs : List β) (a : α), P a → (∀ a x, P a → P (f a x)) → P (xs.foldl f a)
  | [], _, h, _ => h
  | x :: xs, a, h, hf => fold_inv P xs (f a x) (hf a x h) hf
theorem relaxC_len (r : List (Option Int)) (o : Cls × Nat) : (relaxC r o).length = r.length := fold_inv (fun s : List (Option Int) => s.length = r.length) _ _ rfl fun a x h => (relax1_len ..).trans h
theorem passR_len (cs : List Cls) (r : List (Option Int)) : (passR cs r).length = r.length := fold_inv (fun s : List (Option Int) => s.length = r.length) _ _ rfl fun a x h => (relaxC_len ..).trans h
theorem restsF_len (cs : List Cls) : (restsF cs).length = cs.length := fold_inv (fun s : List (Option Int) => s.length = cs.length) _ _ (by unfold rests0; rw [List.length_map]) fun a x h => (passR_len ..).trans h
/-- so great at most -/
def RB (B : Int) (r : List (Option Int)) : Prop := ∀ x, some x ∈ r → 0 ≤ x ∧ x ≤ B
theorem getD_memQ {r : List (Option Int)} {j : Nat} {x : Int} (h : r.getD j none = some x) : some x ∈ r := by
  rw [List.getD_eq_getElem?_getD] at h
  by_cases hj : j < r.length
  · rw [List.getElem?_eq_getElem hj] at h
    have h' : r[j] = some x := h
    rw [← h']; exact List.getElem_mem hj
  · rw [List.getElem?_eq_none (by omega)] at h; cases h
theorem relax1_B {k : Nat} {dn : Bool} {r : List (Option Int)} {p : Int × Nat} {B : Int} (hp : 0 ≤ p.1 ∧ p.1 ≤ 9) (h : RB B r) : RB (B + 9) (relax1 k dn r p) := by
  have h9 : RB (B + 9) r := fun x hx => by have := h x hx; omega
  have hset : ∀ x, some x ∈ r → RB (B + 9) (r.set k (some (p.1 + x))) := fun x hx y hy => by
    rcases List.mem_or_eq_of_mem_set hy with hy | hy
    · exact h9 y hy
    · cases hy; have := h x hx; omega
  unfold relax1
  split
  · exact h9
  · split
    · exact h9
    · rename_i x hx
      have hxm := getD_memQ hx
      split
      · exact hset x hxm
      · split
        · exact hset x hxm
        · exact h9
theorem relaxC_B {r : List (Option Int)} {o : Cls × Nat} {B : Int} (hp : o.1.2.length ≤ 4 ∧ ∀ p ∈ o.1.2, 0 ≤ p.1 ∧ p.1 ≤ 9) (h : RB B r) : RB (B + 36) (relaxC r o) := by
  have : ∀ (ps : List (Int × Nat)) (r : List (Option Int)) (B : Int), (∀ p ∈ ps, 0 ≤ p.1 ∧ p.1 ≤ 9) → RB B r → RB (B + 9 * ps.length) (ps.foldl (relax1 o.2 o.1.1) r) := by
    intro ps
    induction ps with
    | nil => intro r B _ h; simpa using h
    | cons p ps ih =>
      intro r B hp h
      have := ih (relax1 o.2 o.1.1 r p) (B + 9) (fun q hq => hp q (List.mem_cons_of_mem _ hq)) (relax1_B (hp p (List.mem_cons_self ..)) h)
      rw [List.foldl_cons, List.length_cons]
      rwa [show B + 9 + 9 * (ps.length : Int) = B + 9 * ((ps.length + 1 : Nat) : Int) by omega] at this
  have h1 := this o.1.2 r B hp.2 h
  exact fun x hx => by have := h1 x hx; omega
theorem passR_B {cs : List Cls} {r : List (Option Int)} {B : Int} (hc : ∀ c ∈ cs, c.2.length ≤ 4 ∧ ∀ p ∈ c.2, 0 ≤ p.1 ∧ p.1 ≤ 9) (h : RB B r) : RB (B + 36 * cs.length) (passR cs r) := by
  have : ∀ (os : List (Cls × Nat)) (r : List (Option Int)) (B : Int), (∀ o ∈ os, o.1.2.length ≤ 4 ∧ ∀ p ∈ o.1.2, 0 ≤ p.1 ∧ p.1 ≤ 9) → RB B r → RB (B + 36 * os.length) (os.foldl relaxC r) := by
    intro os
    induction os with
    | nil => intro r B _ h; simpa using h
    | cons o os ih =>
      intro r B hp h
      have := ih (relaxC r o) (B + 36) (fun q hq => hp q (List.mem_cons_of_mem _ hq)) (relaxC_B (hp o (List.mem_cons_self ..)) h)
      rw [List.foldl_cons, List.length_cons]
      rwa [show B + 36 + 36 * (os.length : Int) = B + 36 * ((os.length + 1 : Nat) : Int) by omega] at this
  have h1 := this cs.zipIdx r B (fun o ho => hc o.1 (List.fst_mem_of_mem_zipIdx ho)) h
  rw [List.length_zipIdx] at h1
  exact h1
theorem restsF_B {cs : List Cls} (hl : cs.length ≤ 6) (hc : ∀ c ∈ cs, c.2.length ≤ 4 ∧ ∀ p ∈ c.2, 0 ≤ p.1 ∧ p.1 ≤ 9) : RB 1296 (restsF cs) := by
  have : ∀ (ds : List Cls) (r : List (Option Int)) (B : Int), RB B r → RB (B + 216 * ds.length) (ds.foldl (fun r _ => passR cs r) r) := by
    intro ds
    induction ds with
    | nil => intro r B h; simpa using h
    | cons d ds ih =>
      intro r B h
      have h1 := passR_B hc h
      have h2 : RB (B + 216) (passR cs r) := fun x hx => by have := h1 x hx; omega
      have := ih (passR cs r) (B + 216) h2
      rw [List.foldl_cons, List.length_cons]
      rwa [show B + 216 + 216 * (ds.length : Int) = B + 216 * ((ds.length + 1 : Nat) : Int) by omega] at this
  have h0 : RB 0 (rests0 cs) := fun x hx => by
    unfold rests0 at hx
    obtain ⟨c, _, e⟩ := List.mem_map.mp hx
    split at e
    · cases e; decide
    · cases e
  have h1 := this cs (rests0 cs) 0 h0
  exact fun x hx => by have := h1 x hx; omega
section
variable {T : Tab} {d : Nat} {M : Store}
theorem rests_ok (h39 : T.fn 39 = some fdRests) {cs : List Cls} (hl : cs.length ≤ 1000) (hc : ∀ c ∈ cs, ∀ p ∈ c.2, p.2 < cs.length) : evC T (d + 1) 39 [classesM cs] M = .ok (.lst .fz ((restsF cs).map optM)) M := by
  refine sat_eq (sat_call [some (.v (classesM cs)), none, none, none, none, none, none, none, none] h39 rfl rfl ?_)
  have hz : cs.length ≤ SZ := Nat.le_trans hl (by decide)
  simp only [fdRests]
  have sqc : seqOf (classesM cs) = some (cs.map classM) := rfl
  refine sat_next (ρ1 := [some (.v (classesM cs)), some (.ol ((rests0 cs).map optM)), none, none, none, none, none, none, none]) (M1 := M) ?_ ?_
  · simp_arith [sqc]
    rw [lc_map (fun c => some (optM (if c.1 then some 0 else none))) ?_ hz]
    · have e : cs.map (fun c => optM (if c.1 then some 0 else none)) = (rests0 cs).map optM := by unfold rests0; rw [List.map_map]; rfl
      simp_arith [K13.fm_some, e]
    · rintro ⟨dn, ps⟩ _
      have ec : ∀ b : Bool, idxM (.tup [.bl b, pairsM ps]) (.int 0) = some (.bl b) := fun _ => rfl
      have ed : ∀ b : Bool, ∀ M, (classM (b, ps)).dr M = .tup [.bl b, pairsM ps] := fun _ _ => rfl
      cases dn with
      | true =>
        simp_arith [ed, ec, bi_intQ, l_intbQ, optM]
      | false =>
        simp_arith [ed, ec, bi_intQ, l_intbQ, optM]
  refine sat_cons (R := fun r M' => M' = M ∧ ∃ a b c e f g h, r = (.nx, [some (.v (classesM cs)), some (.ol ((restsF cs).map optM)), a, b, c, e, f, g, h])) ?_ ?_
  · refine sat_forr (v := classesM cs) (xs := cs.map classM) (M1 := M) (fun (xs : List MV) (ρ : Env) (M' : Store) => M' = M ∧ ∃ (ps qs : List Cls) (a b c e f g h : Option SV), cs = ps ++ qs ∧ xs = qs.map classM ∧ ρ = [some (.v (classesM cs)), some (.ol ((ps.foldl (fun r _ => passR cs r) (rests0 cs)).map optM)), a, b, c, e, f, g, h]) (by simp_arith [show (classesM cs).frz = some (classesM cs) from rfl]) rfl ?_ ?_ ?_
    · exact ⟨rfl, [], cs, none, none, none, none, none, none, none, rfl, rfl, rfl⟩
    · rintro x xs ρ M' ⟨rfl, ps, qs, a, b, c, e, f, g, h, he, hx, rfl⟩
      cases qs with
      | nil => cases hx
      | cons q qs =>
        rw [List.map_cons] at hx
        cases hx
        generalize hr1 : ps.foldl (fun r _ => passR cs r) (rests0 cs) = r1
        have hr1l : r1.length = cs.length := by rw [← hr1]; exact fold_inv (fun s : List (Option Int) => s.length = cs.length) _ _ (by unfold rests0; rw [List.length_map]) fun a x h => (passR_len ..).trans h
        refine ⟨[some (.v (classesM cs)), some (.ol (r1.map optM)), a, some (.v (classM q)), c, e, f, g, h], rfl, ?_⟩
        refine sat_cons (R := fun r M2 => M2 = M' ∧ ∃ c e f g h, r = (.nx, [some (.v (classesM cs)), some (.ol ((passR cs r1).map optM)), a, some (.v (classM q)), c, e, f, g, h])) ?_ ?_
        · refine sat_forr (v := .lst .fz (cs.zipIdx.map fun p => .tup [.int (p.2 : Int), classM p.1])) (xs := cs.zipIdx.map fun p => .tup [.int (p.2 : Int), classM p.1]) (M1 := M') (fun (xs : List MV) (ρ : Env) (M2 : Store) => M2 = M' ∧ ∃ (us vs : List (Cls × Nat)) (c e f g h : Option SV), cs.zipIdx = us ++ vs ∧ xs = vs.map (fun p => .tup [.int (p.2 : Int), classM p.1]) ∧ ρ = [some (.v (classesM cs)), some (.ol ((us.foldl relaxC r1).map optM)), a, some (.v (classM q)), c, e, f, g, h]) (by simp_arith [bi_enum, classesM, l_enl, en_mapQ]) rfl ?_ ?_ ?_
          · exact ⟨rfl, [], cs.zipIdx, c, e, f, g, h, rfl, rfl, rfl⟩
          · rintro x xs ρ M2 ⟨rfl, us, vs, c, e, f, g, h, hu, hx, rfl⟩
            cases vs with
            | nil => cases hx
            | cons o vs =>
              obtain ⟨⟨dn, pp⟩, k⟩ := o
              rw [List.map_cons] at hx
              cases hx
              have hom : ((dn, pp), k) ∈ cs.zipIdx := by rw [hu]; exact List.mem_append.mpr (.inr (List.mem_cons_self ..))
              have hk : k < cs.length := by have := List.snd_lt_of_mem_zipIdx hom; simpa using this
              have hpc := hc (dn, pp) (List.fst_mem_of_mem_zipIdx hom)
              generalize hr2 : us.foldl relaxC r1 = r2
              have hr2l : r2.length = cs.length := by rw [← hr2]; exact fold_inv (fun s : List (Option Int) => s.length = cs.length) _ _ hr1l fun a x h => (relaxC_len ..).trans h
              refine ⟨[some (.v (classesM cs)), some (.ol (r2.map optM)), a, some (.v (classM q)), some (.v (.int (k : Int))), some (.v (.bl dn)), some (.v (pairsM pp)), g, h], rfl, ?_⟩
              refine sat_cons (R := fun r M3 => M3 = M2 ∧ ∃ g h, r = (.nx, [some (.v (classesM cs)), some (.ol ((relaxC r2 ((dn, pp), k)).map optM)), a, some (.v (classM q)), some (.v (.int (k : Int))), some (.v (.bl dn)), some (.v (pairsM pp)), g, h])) ?_ ?_
              · refine sat_forr (v := pairsM pp) (xs := pp.map pairM) (M1 := M2) (fun (xs : List MV) (ρ : Env) (M3 : Store) => M3 = M2 ∧ ∃ (as bs : List (Int × Nat)) (g h : Option SV), pp = as ++ bs ∧ xs = bs.map pairM ∧ ρ = [some (.v (classesM cs)), some (.ol ((as.foldl (relax1 k dn) r2).map optM)), a, some (.v (classM q)), some (.v (.int (k : Int))), some (.v (.bl dn)), some (.v (pairsM pp)), g, h]) (by simp_arith [show (pairsM pp).frz = some (pairsM pp) from rfl]) rfl ?_ ?_ ?_
                · exact ⟨rfl, [], pp, g, h, rfl, rfl, rfl⟩
                · rintro x xs ρ M3 ⟨rfl, as, bs, g, h, hab, hx, rfl⟩
                  cases bs with
                  | nil => cases hx
                  | cons p bs =>
                    obtain ⟨c0, j⟩ := p
                    rw [List.map_cons] at hx
                    cases hx
                    have hj : j < cs.length := hpc (c0, j) (by rw [hab]; exact List.mem_append.mpr (.inr (List.mem_cons_self ..)))
                    generalize hr3 : as.foldl (relax1 k dn) r2 = r3
                    have hr3l : r3.length = cs.length := by rw [← hr3]; exact fold_inv (fun s : List (Option Int) => s.length = cs.length) _ _ hr2l fun a x h => (relax1_len ..).trans h
                    have hstep : (as ++ [(c0, j)]).foldl (relax1 k dn) r2 = relax1 k dn r3 (c0, j) := by rw [List.foldl_append, hr3]; rfl
                    have habs : pp = (as ++ [(c0, j)]) ++ bs := by rw [hab, List.append_assoc]; rfl
                    have aj := at_opt (r := r3) (j := j) (by omega)
                    have ak := at_opt (r := r3) (j := k) (by omega)
                    have akk := atK_nat' (r3.map optM) k (by rw [List.length_map]; omega)
                    have hms : ∀ v, (r3.map optM).set k (.int v) = (r3.set k (some v)).map optM := fun v => by rw [List.map_set]; rfl
                    refine ⟨[some (.v (classesM cs)), some (.ol (r3.map optM)), a, some (.v (classM q)), some (.v (.int (k : Int))), some (.v (.bl dn)), some (.v (pairsM pp)), some (.v (.int c0)), some (.v (.int (j : Int)))], rfl, ?_⟩
                    refine sat_imp (P := fun r M4 => M4 = M3 ∧ r = (.nx, [some (.v (classesM cs)), some (.ol ((relax1 k dn r3 (c0, j)).map optM)), a, some (.v (classM q)), some (.v (.int (k : Int))), some (.v (.bl dn)), some (.v (pairsM pp)), some (.v (.int c0)), some (.v (.int (j : Int)))])) ?_ ?_
                    · cases dn with
                      | true =>
                        simp_arith [Bool.not_true]
                        exact sat_ok ⟨rfl, rfl⟩
                      | false =>
                        cases hgj : r3.getD j none with
                        | none =>
                          have e : relax1 k false r3 (c0, j) = r3 := by unfold relax1; rw [if_neg Bool.false_ne_true, hgj]
                          rw [hgj] at aj
                          simp_arith [Bool.not_false, aj, optM, c_notNQ, MV.isNon, Bool.not_true, e]
                          exact sat_ok ⟨rfl, rfl⟩
                        | some x =>
                          rw [hgj] at aj
                          cases hgk : r3.getD k none with
                          | none =>
                            have e : relax1 k false r3 (c0, j) = r3.set k (some (c0 + x)) := by unfold relax1; rw [if_neg Bool.false_ne_true, hgj, hgk]
                            rw [hgk] at ak
                            simp_arith [Bool.not_false, aj, ak, optM, c_notNQ, c_isNQ, MV.isNon, e, akk, hms]
                            exact sat_ok ⟨rfl, rfl⟩
                          | some y =>
                            rw [hgk] at ak
                            by_cases hlt : c0 + x < y
                            · have e : relax1 k false r3 (c0, j) = r3.set k (some (c0 + x)) := by unfold relax1; rw [if_neg Bool.false_ne_true, hgj, hgk]; exact if_pos hlt
                              simp_arith [Bool.not_false, aj, ak, optM, c_notNQ, c_isNQ, MV.isNon, decide_eq_true hlt, e, akk, hms]
                              exact sat_ok ⟨rfl, rfl⟩
                            · have e : relax1 k false r3 (c0, j) = r3 := by unfold relax1; rw [if_neg Bool.false_ne_true, hgj, hgk]; exact if_neg hlt
                              simp_arith [Bool.not_false, aj, ak, optM, c_notNQ, c_isNQ, MV.isNon, decide_eq_false hlt, e]
                              exact sat_ok ⟨rfl, rfl⟩
                    · rintro r M4 ⟨rfl, rfl⟩
                      exact ⟨rfl, as ++ [(c0, j)], bs, some (.v (.int c0)), some (.v (.int (j : Int))), habs, rfl, by rw [hstep]⟩
                · rintro ρ M3 ⟨rfl, as, bs, g, h, hab, hx, rfl⟩
                  cases bs with
                  | nil => rw [List.append_nil] at hab; exact ⟨rfl, g, h, by rw [← hab]; rfl⟩
                  | cons _ _ => cases hx
              · rintro _ M3 ⟨rfl, g, h, rfl⟩
                refine sat_nil ⟨rfl, us ++ [((dn, pp), k)], vs, some (.v (.int (k : Int))), some (.v (.bl dn)), some (.v (pairsM pp)), g, h, by rw [hu, List.append_assoc]; rfl, rfl, ?_⟩
                rw [List.foldl_append, hr2]
                rfl
          · rintro ρ M2 ⟨rfl, us, vs, c, e, f, g, h, hu, hx, rfl⟩
            cases vs with
            | nil => rw [List.append_nil] at hu; exact ⟨rfl, c, e, f, g, h, by unfold passR; rw [hu]⟩
            | cons _ _ => cases hx
        · rintro _ M2 ⟨rfl, c, e, f, g, h, rfl⟩
          refine sat_nil ⟨rfl, ps ++ [q], qs, a, some (.v (classM q)), c, e, f, g, h, by rw [he, List.append_assoc]; rfl, rfl, ?_⟩
          rw [List.foldl_append, hr1]
          rfl
    · rintro ρ M' ⟨rfl, ps, qs, a, b, c, e, f, g, h, he, hx, rfl⟩
      cases qs with
      | nil => rw [List.append_nil] at he; exact ⟨rfl, a, b, c, e, f, g, h, by unfold restsF; rw [he]⟩
      | cons _ _ => cases hx
  · rintro _ M' ⟨rfl, a, b, c, e, f, g, h, rfl⟩
    simp_arith [evSs]
    exact sat_ok ⟨rfl, rfl⟩
end
end TK
end Q

/-! ExD: typed loops; a told task's data: bounds, cuts. -/
namespace Q
open PySem
local macro_rules
  | `(tactic| simp_arith [$as,*]) => `(tactic| simp only [$as,*, evSs, evS, evT, evF, evE, evFs, evEs, evO, rb, ro, get0, getS, dr_int, dr_lst, dr_bl, dr_tup, dr_non, dr_str, t_bl, fr_int, fr_bl, fr_str, fr_non, fr_tup, fr_nw, fr_fz, fr_ro, fr_ref, ou_int, ou_bl, ou_tup, ou_nw, ou_fz, ou_bw, ou_ref, ou_non, ou_str, ix_l, ix_t, b_add, b_sub, l_len, l_lent, atM_0, atM_1, atM_2, List.getElem?_cons_zero, List.getElem?_cons_succ, List.length_cons, List.length_nil, List.replicate, List.cons_append, List.nil_append, if_true, Bool.false_eq_true, map1, map2, if_false, szif (Nat.zero_le _), nx_s, so_l, so_d, sv_, bg_, get0o, l_abs, c_ge, c_lt, c_gt, c_le, sl_l, sl_t, it_f, it_t, bi_abs, bi_len, List.set_cons_zero, List.set_cons_succ, Nat.reduceAdd, Nat.reduceLT, Option.map_some, szif (by decide : 1 ≤ 16777216), szif (by decide : 2 ≤ 16777216), szif (by decide : 3 ≤ 16777216), szif (by decide : 4 ≤ 16777216), szif (by decide : 5 ≤ 16777216), szif (by decide : 6 ≤ 16777216), szif (by decide : 7 ≤ 16777216), szif (by decide : 8 ≤ 16777216), szif (by decide : 9 ≤ 16777216), bnd, sq_l, sq_t, wp_n, wp_c, bi_tuple, l_tpl, l_tpt])
theorem sat_fort {β : Type} {T : Tab} {cl : Nat → List MV → Store → Res MV} {g : G} {it : E} {b : List S} {ρ : Env} {M M1 : Store} {v : MV} (φ : β → MV) (bs : List β) {P : Out × Env → Store → Prop} (I : List β → Env → Store → Prop) (hi : evF T cl it ρ M = .ok v M1) (hx : itemsOf v = some (bs.map φ)) (h0 : I bs ρ M1)
    (hs : ∀ x xs ρ M, I (x :: xs) ρ M → ∃ ρ1, bindG g (φ x) ρ = some ρ1 ∧ (evSs T cl b ρ1 M).Sat fun r M' => match r.1 with | .nx => I xs r.2 M' | .ct => I xs r.2 M' | .brk => P (.nx, r.2) M' | .ret v => P (.ret v, r.2) M')
    (he : ∀ ρ M, I [] ρ M → P (.nx, ρ) M) : (evS T cl (.forr g it b) ρ M).Sat P := by
  refine sat_forr (v := v) (xs := bs.map φ) (M1 := M1) (fun xs ρ M => ∃ zs, xs = zs.map φ ∧ I zs ρ M) hi hx ⟨bs, rfl, h0⟩ ?_ ?_
  · rintro x xs ρ M ⟨zs, e, h⟩
    cases zs with
    | nil => cases e
    | cons z zs =>
      rw [List.map_cons] at e
      cases e
      obtain ⟨ρ1, e1, h1⟩ := hs z zs ρ M h
      refine ⟨ρ1, e1, sat_imp h1 ?_⟩
      rintro ⟨o, ρ2⟩ M2 p
      cases o with
      | nx => exact ⟨zs, rfl, p⟩
      | ct => exact ⟨zs, rfl, p⟩
      | brk => exact p
      | ret v => exact p
  · rintro ρ M ⟨zs, e, h⟩
    cases zs with
    | nil => exact he ρ M h
    | cons _ _ => cases e
theorem l_maxlQ (k : Kd) (is : List Int) : evBi .maxL [.lst k (is.map .int)] = (maxI is).map .int := by
  show (match intsOf (is.map .int) with | some is => (maxI is).map MV.int | none => none) = _
  rw [ints_map]
theorem bi_maxLQ : Bi.maxL.it = false := rfl
theorem b_addl {k l : Kd} {xs ys : List MV} (h : xs.length + ys.length ≤ SZ) (hk : k ≠ .ro) (hl : l ≠ .ro) : binM .add (.lst k xs) (.lst l ys) = some (.lst .nw (xs ++ ys)) := by
  simp only [binM]
  rw [if_pos ⟨h, hk, hl⟩]
def natM (n : Nat) : MV := .int (n : Int)
def enM {α : Type} (φ : α → MV) (p : α × Nat) : MV := .tup [.int (p.2 : Int), φ p.1]
theorem en_map {α : Type} (φ : α → MV) (bs : List α) : enumF 0 (bs.map φ) = bs.zipIdx.map (enM φ) := en_mapQ φ 0 bs
theorem rangeL_nat (n : Nat) : rangeL 0 (n : Int) = (List.range n).map natM := by
  unfold rangeL
  rw [show ((n : Int) - 0).toNat = n by omega]
  refine List.map_congr_left fun k _ => ?_
  show MV.int (0 + (k : Int)) = .int (k : Int)
  rw [Int.zero_add]
theorem l_enK (k : Kd) (xs : List MV) : evBi .enum [.lst k xs] = some (.lst (MV.lst k xs).kd (enumF 0 xs)) := rfl
theorem kd_fz (xs : List MV) : (MV.lst .fz xs).kd = .nw := rfl
theorem kd_t (xs : List MV) : (MV.tup xs).kd = .nw := rfl
theorem zip_mem {α : Type} {xs : List α} {p : α × Nat} (h : p ∈ xs.zipIdx) : xs[p.2]? = some p.1 := by
  obtain ⟨x, i⟩ := p
  have := List.mem_zipIdx_iff_getElem?.mp h
  exact this
theorem zip_lt {α : Type} {xs : List α} {p : α × Nat} (h : p ∈ xs.zipIdx) : p.2 < xs.length := by
  have := zip_mem h
  rcases Nat.lt_or_ge p.2 xs.length with h | h
  · exact h
  · rw [List.getElem?_eq_none h] at this; cases this
namespace TK
theorem fm_opt : ∀ rs : List (Option Int), (rs.filterMap fun o => if o.isSome then some (optM o) else none) = (rs.filterMap id).map MV.int
  | [] => rfl
  | none :: os => fm_opt os
  | some x :: os => congrArg (MV.int x :: ·) (fm_opt os)
theorem maxf_ge (xs : List Int) (a : Int) : a ≤ xs.foldl (fun a b => if b > a then b else a) a := by
  induction xs generalizing a with
  | nil => exact Int.le_refl _
  | cons x xs ih => rw [List.foldl_cons]; have := ih (if x > a then x else a); split at this <;> (split <;> omega)
theorem maxf_le (xs : List Int) (a B : Int) (ha : a ≤ B) (h : ∀ x ∈ xs, x ≤ B) : xs.foldl (fun a b => if b > a then b else a) a ≤ B := by
  induction xs generalizing a with
  | nil => exact ha
  | cons x xs ih =>
    rw [List.foldl_cons]
    refine ih _ ?_ fun y hy => h y (List.mem_cons_of_mem _ hy)
    have := h x (List.mem_cons_self ..)
    split <;> omega
section
variable {T : Tab} {d b : Nat} {M : Store}
end
end TK
end Q

/-! ExE: a told task's data: cuts, variants. -/
namespace Q
open PySem
local macro_rules
  | `(tactic| simp_arith [$as,*]) => `(tactic| simp only [$as,*, evSs, evS, evT, evF, evE, evFs, evEs, evO, rb, ro, get0, getS, dr_int, dr_lst, dr_bl, dr_tup, dr_non, dr_str, t_bl, fr_int, fr_bl, fr_str, fr_non, fr_tup, fr_nw, fr_fz, fr_ro, fr_ref, ou_int, ou_bl, ou_tup, ou_nw, ou_fz, ou_bw, ou_ref, ou_non, ou_str, ix_l, ix_t, b_add, b_sub, l_len, l_lent, atM_0, atM_1, atM_2, List.getElem?_cons_zero, List.getElem?_cons_succ, List.length_cons, List.length_nil, List.replicate, List.cons_append, List.nil_append, if_true, Bool.false_eq_true, map1, map2, if_false, szif (Nat.zero_le _), nx_s, so_l, so_d, sv_, bg_, get0o, l_abs, c_ge, c_lt, c_gt, c_le, sl_l, sl_t, it_f, it_t, bi_abs, bi_len, List.set_cons_zero, List.set_cons_succ, Nat.reduceAdd, Nat.reduceLT, Option.map_some, szif (by decide : 1 ≤ 16777216), szif (by decide : 2 ≤ 16777216), szif (by decide : 3 ≤ 16777216), szif (by decide : 4 ≤ 16777216), szif (by decide : 5 ≤ 16777216), szif (by decide : 6 ≤ 16777216), szif (by decide : 7 ≤ 16777216), szif (by decide : 8 ≤ 16777216), szif (by decide : 9 ≤ 16777216), bnd, sq_l, sq_t, wp_n, wp_c, bi_tuple, l_tpl, l_tpt])
namespace TK
section
variable {T : Tab} {d b : Nat} {M : Store}
end
end TK
end Q

/-! ExF: a told task's data: variants, a row, rows, what it all is. -/
namespace Q
open PySem
local macro_rules
  | `(tactic| simp_arith [$as,*]) => `(tactic| simp only [$as,*, evSs, evS, evT, evF, evE, evFs, evEs, evO, rb, ro, get0, getS, dr_int, dr_lst, dr_bl, dr_tup, dr_non, dr_str, t_bl, fr_int, fr_bl, fr_str, fr_non, fr_tup, fr_nw, fr_fz, fr_ro, fr_ref, ou_int, ou_bl, ou_tup, ou_nw, ou_fz, ou_bw, ou_ref, ou_non, ou_str, ix_l, ix_t, b_add, b_sub, l_len, l_lent, atM_0, atM_1, atM_2, List.getElem?_cons_zero, List.getElem?_cons_succ, List.length_cons, List.length_nil, List.replicate, List.cons_append, List.nil_append, if_true, Bool.false_eq_true, map1, map2, if_false, szif (Nat.zero_le _), nx_s, so_l, so_d, sv_, bg_, get0o, l_abs, c_ge, c_lt, c_gt, c_le, sl_l, sl_t, it_f, it_t, bi_abs, bi_len, List.set_cons_zero, List.set_cons_succ, Nat.reduceAdd, Nat.reduceLT, Option.map_some, szif (by decide : 1 ≤ 16777216), szif (by decide : 2 ≤ 16777216), szif (by decide : 3 ≤ 16777216), szif (by decide : 4 ≤ 16777216), szif (by decide : 5 ≤ 16777216), szif (by decide : 6 ≤ 16777216), szif (by decide : 7 ≤ 16777216), szif (by decide : 8 ≤ 16777216), szif (by decide : 9 ≤ 16777216), bnd, sq_l, sq_t, wp_n, wp_c, bi_tuple, l_tpl, l_tpt])
namespace TK
section
variable {T : Tab} {d b : Nat} {M : Store}
end
end TK
end Q

/-! ExG: a told task's rows; its ends and fronts, by the law's own going. -/
namespace Q
open PySem
local macro_rules
  | `(tactic| simp_arith [$as,*]) => `(tactic| simp only [$as,*, evSs, evS, evT, evF, evE, evFs, evEs, evO, rb, ro, get0, getS, dr_int, dr_lst, dr_bl, dr_tup, dr_non, dr_str, t_bl, fr_int, fr_bl, fr_str, fr_non, fr_tup, fr_nw, fr_fz, fr_ro, fr_ref, ou_int, ou_bl, ou_tup, ou_nw, ou_fz, ou_bw, ou_ref, ou_non, ou_str, ix_l, ix_t, b_add, b_sub, l_len, l_lent, atM_0, atM_1, atM_2, List.getElem?_cons_zero, List.getElem?_cons_succ, List.length_cons, List.length_nil, List.replicate, List.cons_append, List.nil_append, if_true, Bool.false_eq_true, map1, map2, if_false, szif (Nat.zero_le _), nx_s, so_l, so_d, sv_, bg_, get0o, l_abs, c_ge, c_lt, c_gt, c_le, sl_l, sl_t, it_f, it_t, bi_abs, bi_len, List.set_cons_zero, List.set_cons_succ, Nat.reduceAdd, Nat.reduceLT, Option.map_some, szif (by decide : 1 ≤ 16777216), szif (by decide : 2 ≤ 16777216), szif (by decide : 3 ≤ 16777216), szif (by decide : 4 ≤ 16777216), szif (by decide : 5 ≤ 16777216), szif (by decide : 6 ≤ 16777216), szif (by decide : 7 ≤ 16777216), szif (by decide : 8 ≤ 16777216), szif (by decide : 9 ≤ 16777216), bnd, sq_l, sq_t, wp_n, wp_c, bi_tuple, l_tpl, l_tpt])
theorem eq_natI (a b : Nat) : ((a : Int) == (b : Int)) = (a == b) := by
  by_cases h : a = b
  · subst h; rw [beq_self_eq_true, beq_self_eq_true]
  · rw [beq_eq_false_iff_ne.mpr h, beq_eq_false_iff_ne.mpr (by omega)]
namespace TK
structure Row where
  nexts : List (Int × Nat)
  done : Bool
  name : Int
  bound : Int
  cut : Bool
def nextsM (ps : List (Int × Nat)) : MV := .tup (ps.map pairM)
def rowM (r : Row) : MV := .tup [nextsM r.nexts, .bl r.done, .int r.name, .int r.bound, .bl r.cut]
structure RowOk (n : Nat) (r : Row) : Prop where
  l : r.nexts.length ≤ 4
  p : ∀ p ∈ r.nexts, 0 ≤ p.1 ∧ p.1 ≤ 9 ∧ p.2 < n
  nm : 0 ≤ r.name ∧ r.name ≤ 11
  bd : 0 ≤ r.bound ∧ r.bound ≤ 2000
def stopsF (rs : List Row) : List Nat := rs.zipIdx.filterMap fun p => if p.1.done then some p.2 else none
def fr1 (t : Nat) (p : Row × Nat) : List (Int × Nat) := p.1.nexts.filterMap fun q => if (q.2 == t) && !p.1.done then some (q.1, p.2) else none
def frontF (rs : List Row) (t : Nat) : List (Int × Nat) := rs.zipIdx.flatMap (fr1 t)
def frontsF (rs : List Row) : List (List (Int × Nat)) := (List.range rs.length).map (frontF rs)
def fdEnds : Fd := ⟨1, 9, [.set 1 (.bi .tuple (.cons (.lc (.var 2) [2, 3] (.tup [.nm 2, .nm 3]) (.bi .enum (.cons (.var 0) (.nil))) (.idx (.var 3) (.con (.int 1)))) (.nil))), .own 4 (.lst (.nil)), .forr (.nm 5) (.bi .range1 (.cons (.bi .len (.cons (.var 0) (.nil))) (.nil))) [.set 6 (.lst (.nil)), .forr (.tup [.nm 2, .nm 3]) (.bi .enum (.cons (.var 0) (.nil))) [.set 6 (.bin .add (.var 6) (.lc (.tup (.cons (.var 7) (.cons (.var 2) (.nil)))) [7, 8] (.tup [.nm 7, .nm 8]) (.idx (.var 3) (.con (.int 0))) (.andd (.cmp .eq (.var 8) (.var 5)) (.nt (.idx (.var 3) (.con (.int 1)))))))], .app 4 (.bi .tuple (.cons (.var 6) (.nil)))], .ret (.tup (.cons (.var 1) (.cons (.bi .tuple (.cons (.var 4) (.nil))) (.nil))))]⟩
theorem fr1_len (t : Nat) (p : Row × Nat) : (fr1 t p).length ≤ p.1.nexts.length := List.length_filterMap_le ..
theorem flat_len {t : Nat} : ∀ {xs : List (Row × Nat)}, (∀ p ∈ xs, p.1.nexts.length ≤ 4) → (xs.flatMap (fr1 t)).length ≤ 4 * xs.length
  | [], _ => Nat.le_refl _
  | x :: xs, h => by
    rw [List.flatMap_cons, List.length_append, List.length_cons]
    have h1 := fr1_len t x
    have h2 := h x (List.mem_cons_self ..)
    have h3 := flat_len (t := t) (xs := xs) fun p hp => h p (List.mem_cons_of_mem _ hp)
    omega
theorem front_len {rs : List Row} {t : Nat} (h : ∀ r ∈ rs, r.nexts.length ≤ 4) : (frontF rs t).length ≤ 4 * rs.length := by
  have := flat_len (t := t) (xs := rs.zipIdx) fun p hp => h p.1 (List.mem_of_getElem? (zip_mem hp))
  rwa [List.length_zipIdx] at this
theorem row_i0 (r : Row) : atM [nextsM r.nexts, .bl r.done, .int r.name, .int r.bound, .bl r.cut] 0 = some (nextsM r.nexts) := rfl
section
variable {T : Tab} {d b : Nat} {M : Store}
theorem ends_ok {fe : Nat} (h75 : T.fn fe = some fdEnds) {rs : List Row} (hl : rs.length ≤ 1000) (hr : ∀ r ∈ rs, r.nexts.length ≤ 4) : evC T (d + 1) fe [.lst .fz (rs.map rowM)] M = .ok (.tup [.tup ((stopsF rs).map natM), .tup ((frontsF rs).map nextsM)]) M := by
  have hz : rs.length ≤ SZ := Nat.le_trans hl (by decide)
  refine sat_eq (sat_call [some (.v (.lst .fz (rs.map rowM))), none, none, none, none, none, none, none, none] h75 rfl rfl ?_)
  simp only [fdEnds]
  refine sat_next (ρ1 := [some (.v (.lst .fz (rs.map rowM))), some (.v (.tup ((stopsF rs).map natM))), none, none, none, none, none, none, none]) (M1 := M) ?_ ?_
  · simp_arith [bi_enum, l_enK, en_map]
    rw [lc_map (fun p => if p.1.done then some (natM p.2) else none) ?_ (by rw [List.length_zipIdx]; exact hz)]
    · have e : rs.zipIdx.filterMap (fun p => if p.1.done then some (natM p.2) else none) = (stopsF rs).map natM := by
        unfold stopsF
        rw [List.map_filterMap]
        congr 1
        funext p
        cases p.1.done <;> rfl
      simp_arith [e]
    · rintro ⟨r, k⟩ hk
      obtain ⟨ns, dn, nm, bd, ct⟩ := r
      cases dn with
      | true => simp_arith [enM, rowM, bg_t, bindGs, bgs_n]; rfl
      | false => simp_arith [enM, rowM, bg_t, bindGs, bgs_n]
  refine sat_next (ρ1 := [some (.v (.lst .fz (rs.map rowM))), some (.v (.tup ((stopsF rs).map natM))), none, none, some (.ol ([])), none, none, none, none]) (M1 := M) (by simp_arith [evSs]) ?_
  refine sat_cons (R := fun r M' => M' = M ∧ ∃ y2 y3 y5 y6 y7 y8 : Option SV, r = (.nx, [some (.v (.lst .fz (rs.map rowM))), some (.v (.tup ((stopsF rs).map natM))), y2, y3, some (.ol ((frontsF rs).map nextsM)), y5, y6, y7, y8])) ?_ ?_
  · obtain ⟨ni, eni⟩ : ∃ ni : Int, ni = (rs.length : Int) := ⟨_, rfl⟩
    have hll : ((rs.map rowM).length : Int) = ni := by rw [List.length_map, eni]
    refine sat_fort (v := .lst .fz (rangeL 0 ni)) (M1 := M) natM (List.range rs.length) (fun xs ρ M' => M' = M ∧ ∃ (as : List (List (Int × Nat))) (y2 y3 y5 y6 y7 y8 : Option SV), ρ = [some (.v (.lst .fz (rs.map rowM))), some (.v (.tup ((stopsF rs).map natM))), y2, y3, some (.ol (as.map nextsM)), y5, y6, y7, y8] ∧ as ++ xs.map (frontF rs) = frontsF rs) (by simp_arith [hll, bi_r1, l_r1 ni (by omega)]) (by rw [eni, rangeL_nat]; rfl) ?_ ?_ ?_
    · exact ⟨rfl, [], none, none, none, none, none, none, rfl, rfl⟩
    · rintro t xs ρ M' ⟨rfl, as, y2, y3, y5, y6, y7, y8, rfl, ha⟩
      have hal : (as.map nextsM).length < SZ := by
        have := congrArg List.length ha
        unfold frontsF at this
        rw [List.length_append, List.length_map, List.length_cons, List.length_map, List.length_range] at this
        rw [List.length_map]
        show _ < 16777216
        omega
      have hpush : ∀ f : List (Int × Nat), as.map nextsM ++ [.tup (f.map pairM)] = (as ++ [f]).map nextsM := fun i => by rw [List.map_append]; rfl
      have hnext : (as ++ [frontF rs t]) ++ xs.map (frontF rs) = frontsF rs := by rw [← ha, List.append_assoc]; rfl
      have hfl := front_len (t := t) hr
      obtain ⟨ti, eti⟩ : ∃ ti : Int, ti = (t : Int) := ⟨_, rfl⟩
      refine ⟨[some (.v (.lst .fz (rs.map rowM))), some (.v (.tup ((stopsF rs).map natM))), y2, y3, some (.ol (as.map nextsM)), some (.v (.int ti)), y6, y7, y8], by rw [eti]; rfl, ?_⟩
      refine sat_next (ρ1 := [some (.v (.lst .fz (rs.map rowM))), some (.v (.tup ((stopsF rs).map natM))), y2, y3, some (.ol (as.map nextsM)), some (.v (.int ti)), some (.v (.lst .fz [])), y7, y8]) (M1 := M') (by simp_arith [evSs]) ?_
      refine sat_cons (R := fun r M2 => M2 = M' ∧ ∃ y2 y3 y7 y8 : Option SV, r = (.nx, [some (.v (.lst .fz (rs.map rowM))), some (.v (.tup ((stopsF rs).map natM))), y2, y3, some (.ol (as.map nextsM)), some (.v (.int ti)), some (.v (.lst .fz ((frontF rs t).map pairM))), y7, y8])) ?_ ?_
      · refine sat_fort (v := .lst .fz (rs.zipIdx.map (enM rowM))) (M1 := M') (enM rowM) rs.zipIdx (fun xs ρ M2 => M2 = M' ∧ (∀ p ∈ xs, p ∈ rs.zipIdx) ∧ ∃ (f : List (Int × Nat)) (y2 y3 y7 y8 : Option SV), ρ = [some (.v (.lst .fz (rs.map rowM))), some (.v (.tup ((stopsF rs).map natM))), y2, y3, some (.ol (as.map nextsM)), some (.v (.int ti)), some (.v (.lst .fz (f.map pairM))), y7, y8] ∧ f ++ xs.flatMap (fr1 t) = frontF rs t) (by simp_arith [bi_enum, l_enK, en_map, kd_fz]) rfl ?_ ?_ ?_
        · exact ⟨rfl, fun _ h => h, [], y2, y3, y7, y8, rfl, rfl⟩
        · rintro p xs ρ M2 ⟨rfl, hp, f, y2, y3, y7, y8, rfl, hf⟩
          have hpm := hp p (List.mem_cons_self ..)
          have hk := zip_lt hpm
          have hr4 := hr p.1 (List.mem_of_getElem? (zip_mem hpm))
          obtain ⟨r, k⟩ := p
          rw [List.flatMap_cons] at hf
          have hfz : (f.map pairM).length + ((fr1 t (r, k)).map pairM).length ≤ SZ := by
            have := congrArg List.length hf
            rw [List.length_append, List.length_append] at this
            rw [List.length_map, List.length_map]
            show _ ≤ 16777216
            omega
          refine ⟨[some (.v (.lst .fz (rs.map rowM))), some (.v (.tup ((stopsF rs).map natM))), some (.v (.int (k : Int))), some (.v (rowM r)), some (.ol (as.map nextsM)), some (.v (.int ti)), some (.v (.lst .fz (f.map pairM))), y7, y8], rfl, ?_⟩
          refine sat_next (ρ1 := [some (.v (.lst .fz (rs.map rowM))), some (.v (.tup ((stopsF rs).map natM))), some (.v (.int (k : Int))), some (.v (rowM r)), some (.ol (as.map nextsM)), some (.v (.int ti)), some (.v (.lst .fz ((f ++ fr1 t (r, k)).map pairM))), y7, y8]) (M1 := M2) ?_ ?_
          · simp_arith [rowM, row_i0, nextsM]
            rw [lc_map (fun q => if (q.2 == t) && !r.done then some (pairM (q.1, k)) else none) ?_ (Nat.le_trans hr4 (by decide))]
            · have e : r.nexts.filterMap (fun q => if (q.2 == t) && !r.done then some (pairM (q.1, k)) else none) = (fr1 t (r, k)).map pairM := by
                unfold fr1
                rw [List.map_filterMap]
                congr 1
                funext q
                show _ = Option.map pairM (if (q.2 == t && !r.done) = true then some (q.1, k) else none)
                cases (q.2 == t) && !r.done <;> rfl
              simp_arith [e, b_addl (k := .fz) (l := .nw) hfz (by decide) (by decide), List.map_append]
            · rintro ⟨c, j⟩ hq
              cases hjt : j == t with
              | false =>
                have e2 : ((j : Int) == ti) = false := by rw [eti, eq_natI]; exact hjt
                simp_arith [pairM, bg_t, bindGs, bgs_n, c_eqi, e2, Bool.false_and]
              | true =>
                have e2 : ((j : Int) == ti) = true := by rw [eti, eq_natI]; exact hjt
                cases hd : r.done with
                | true => simp_arith [pairM, bg_t, bindGs, bgs_n, c_eqi, e2, Bool.true_and, Bool.not_true]
                | false => simp_arith [pairM, bg_t, bindGs, bgs_n, c_eqi, e2, Bool.true_and, Bool.not_false]
          · exact sat_nil ⟨rfl, fun p h => hp p (List.mem_cons_of_mem _ h), f ++ fr1 t (r, k), some (.v (.int (k : Int))), some (.v (rowM r)), y7, y8, rfl, by rw [List.append_assoc]; exact hf⟩
        · rintro ρ M2 ⟨rfl, _, f, y2, y3, y7, y8, rfl, hf⟩
          rw [List.flatMap_nil, List.append_nil] at hf
          exact ⟨rfl, y2, y3, y7, y8, by rw [hf]⟩
      · rintro _ M2 ⟨rfl, y2, y3, y7, y8, rfl⟩
        show (evSs T (evC T d) _ _ _).Sat _
        simp_arith [hal, hpush]
        exact sat_ok ⟨rfl, as ++ [frontF rs t], y2, y3, some (.v (.int ti)), some (.v (.lst .fz ((frontF rs t).map pairM))), y7, y8, rfl, hnext⟩
    · rintro ρ M' ⟨rfl, as, y2, y3, y5, y6, y7, y8, rfl, ha⟩
      rw [List.map_nil, List.append_nil] at ha
      exact ⟨rfl, y2, y3, y5, y6, y7, y8, by rw [ha]⟩
  · rintro _ M' ⟨rfl, y2, y3, y5, y6, y7, y8, rfl⟩
    simp_arith [evSs]
    exact sat_ok ⟨rfl, rfl⟩
end
end TK
end Q

/-! ExH: a told task's rows by the law's draws. -/
namespace Q
open PySem
local macro_rules
  | `(tactic| simp_arith [$as,*]) => `(tactic| simp only [$as,*, evSs, evS, evT, evF, evE, evFs, evEs, evO, rb, ro, get0, getS, dr_int, dr_lst, dr_bl, dr_tup, dr_non, dr_str, t_bl, fr_int, fr_bl, fr_str, fr_non, fr_tup, fr_nw, fr_fz, fr_ro, fr_ref, ou_int, ou_bl, ou_tup, ou_nw, ou_fz, ou_bw, ou_ref, ou_non, ou_str, ix_l, ix_t, b_add, b_sub, l_len, l_lent, atM_0, atM_1, atM_2, List.getElem?_cons_zero, List.getElem?_cons_succ, List.length_cons, List.length_nil, List.replicate, List.cons_append, List.nil_append, if_true, Bool.false_eq_true, map1, map2, if_false, szif (Nat.zero_le _), nx_s, so_l, so_d, sv_, bg_, get0o, l_abs, c_ge, c_lt, c_gt, c_le, sl_l, sl_t, it_f, it_t, bi_abs, bi_len, List.set_cons_zero, List.set_cons_succ, Nat.reduceAdd, Nat.reduceLT, Option.map_some, szif (by decide : 1 ≤ 16777216), szif (by decide : 2 ≤ 16777216), szif (by decide : 3 ≤ 16777216), szif (by decide : 4 ≤ 16777216), szif (by decide : 5 ≤ 16777216), szif (by decide : 6 ≤ 16777216), szif (by decide : 7 ≤ 16777216), szif (by decide : 8 ≤ 16777216), szif (by decide : 9 ≤ 16777216), bnd, sq_l, sq_t, wp_n, wp_c, bi_tuple, l_tpl, l_tpt])
theorem cutd {α : Type} (xs : List α) (k : Nat) : cutM xs (some (k : Int)) none = xs.drop k := by
  unfold cutM
  have e1 : sIx xs.length 0 (some (k : Int)) = min k xs.length := by
    show (if (k : Int) < 0 then ((k : Int) + xs.length).toNat else min (k : Int).toNat xs.length) = _
    rw [if_neg (by omega), Int.toNat_natCast]
  have e2 : sIx xs.length xs.length none = xs.length := rfl
  rw [e1, e2]
  by_cases h : k ≤ xs.length
  · rw [Nat.min_eq_left h, List.take_of_length_le (by rw [List.length_drop]; omega)]
  · rw [Nat.min_eq_right (by omega), List.drop_of_length_le (Nat.le_refl _), List.drop_of_length_le (by omega), List.take_nil]
theorem cutt {α : Type} (xs : List α) (k : Nat) : cutM xs none (some (k : Int)) = xs.take k := by
  unfold cutM
  have e1 : sIx xs.length xs.length (some (k : Int)) = min k xs.length := by
    show (if (k : Int) < 0 then ((k : Int) + xs.length).toNat else min (k : Int).toNat xs.length) = _
    rw [if_neg (by omega), Int.toNat_natCast]
  have e2 : sIx xs.length 0 none = 0 := rfl
  rw [e1, e2, List.drop_zero, Nat.sub_zero]
  by_cases h : k ≤ xs.length
  · rw [Nat.min_eq_left h]
  · rw [Nat.min_eq_right (by omega), List.take_of_length_le (Nat.le_refl _), List.take_of_length_le (by omega)]
theorem at_natM {r : List Nat} {k : Nat} (h : k < r.length) : atM (r.map natM) (k : Int) = some (natM r[k]) := by rw [atM_map, List.getElem?_eq_getElem h]; rfl
namespace TK
section
variable {T : Tab} {d b : Nat} {M : Store} {cs : List Cls} {rs : List (Option Int)} {bs : List Int} {fs : List Bool} {vs : List (List (List Nat))} {m s : Nat} {most si : Int}
end
end TK
end Q

/-! ExI: a told task's data, whole. -/
namespace Q
open PySem
local macro_rules
  | `(tactic| simp_arith [$as,*]) => `(tactic| simp only [$as,*, evSs, evS, evT, evF, evE, evFs, evEs, evO, rb, ro, get0, getS, dr_int, dr_lst, dr_bl, dr_tup, dr_non, dr_str, t_bl, fr_int, fr_bl, fr_str, fr_non, fr_tup, fr_nw, fr_fz, fr_ro, fr_ref, ou_int, ou_bl, ou_tup, ou_nw, ou_fz, ou_bw, ou_ref, ou_non, ou_str, ix_l, ix_t, b_add, b_sub, l_len, l_lent, atM_0, atM_1, atM_2, List.getElem?_cons_zero, List.getElem?_cons_succ, List.length_cons, List.length_nil, List.replicate, List.cons_append, List.nil_append, if_true, Bool.false_eq_true, map1, map2, if_false, szif (Nat.zero_le _), nx_s, so_l, so_d, sv_, bg_, get0o, l_abs, c_ge, c_lt, c_gt, c_le, sl_l, sl_t, it_f, it_t, bi_abs, bi_len, List.set_cons_zero, List.set_cons_succ, Nat.reduceAdd, Nat.reduceLT, Option.map_some, szif (by decide : 1 ≤ 16777216), szif (by decide : 2 ≤ 16777216), szif (by decide : 3 ≤ 16777216), szif (by decide : 4 ≤ 16777216), szif (by decide : 5 ≤ 16777216), szif (by decide : 6 ≤ 16777216), szif (by decide : 7 ≤ 16777216), szif (by decide : 8 ≤ 16777216), szif (by decide : 9 ≤ 16777216), bnd, sq_l, sq_t, wp_n, wp_c, bi_tuple, l_tpl, l_tpt])
namespace TK
section
variable {T : Tab} {d b : Nat} {M : Store} {cs : List Cls} {rs : List (Option Int)} {bs : List Int} {fs : List Bool} {vs : List (List (List Nat))} {m s : Nat} {most si : Int}
end
end TK
end Q

/-! ExJ: a told task's data, whole. -/
namespace Q
open PySem
local macro_rules
  | `(tactic| simp_arith [$as,*]) => `(tactic| simp only [$as,*, evSs, evS, evT, evF, evE, evFs, evEs, evO, rb, ro, get0, getS, dr_int, dr_lst, dr_bl, dr_tup, dr_non, dr_str, t_bl, fr_int, fr_bl, fr_str, fr_non, fr_tup, fr_nw, fr_fz, fr_ro, fr_ref, ou_int, ou_bl, ou_tup, ou_nw, ou_fz, ou_bw, ou_ref, ou_non, ou_str, ix_l, ix_t, b_add, b_sub, l_len, l_lent, atM_0, atM_1, atM_2, List.getElem?_cons_zero, List.getElem?_cons_succ, List.length_cons, List.length_nil, List.replicate, List.cons_append, List.nil_append, if_true, Bool.false_eq_true, map1, map2, if_false, szif (Nat.zero_le _), nx_s, so_l, so_d, sv_, bg_, get0o, l_abs, c_ge, c_lt, c_gt, c_le, sl_l, sl_t, it_f, it_t, bi_abs, bi_len, List.set_cons_zero, List.set_cons_succ, Nat.reduceAdd, Nat.reduceLT, Option.map_some, szif (by decide : 1 ≤ 16777216), szif (by decide : 2 ≤ 16777216), szif (by decide : 3 ≤ 16777216), szif (by decide : 4 ≤ 16777216), szif (by decide : 5 ≤ 16777216), szif (by decide : 6 ≤ 16777216), szif (by decide : 7 ≤ 16777216), szif (by decide : 8 ≤ 16777216), szif (by decide : 9 ≤ 16777216), bnd, sq_l, sq_t, wp_n, wp_c, bi_tuple, l_tpl, l_tpt])
namespace TK
structure Dat where
  rows : List Row
  maps : List (List Nat)
  ends : Option (List Nat)
  heads : Option (List (List (Int × Nat)))
def rowsM (rs : List Row) : MV := .tup (rs.map rowM)
def mapM (m : List Nat) : MV := .tup (m.map natM)
def mapsM (ms : List (List Nat)) : MV := .tup (ms.map mapM)
def endsM : Option (List Nat) → MV
  | none => .non
  | some es => .tup (es.map natM)
def headsM : Option (List (List (Int × Nat))) → MV
  | none => .non
  | some hs => .tup (hs.map nextsM)
def datM (D : Dat) : MV := .tup [rowsM D.rows, mapsM D.maps, endsM D.ends, headsM D.heads]
/-- as the law draws it -/
structure Dat.Ok (D : Dat) : Prop where
  l : 1 ≤ D.rows.length ∧ D.rows.length ≤ 24
  r : ∀ r ∈ D.rows, RowOk D.rows.length r
  ml : D.maps.length ≤ 1
  m : ∀ m ∈ D.maps, m.length = D.rows.length ∧ ∀ z ∈ m, z < D.rows.length
  e : (D.ends = none ∧ D.heads = none) ∨ (D.ends = some (stopsF D.rows) ∧ D.heads = some (frontsF D.rows))
/-- a row that Told lets by -/
structure RowW (n : Nat) (r : Row) : Prop where
  l : r.nexts.length ≤ 8
  p : ∀ p ∈ r.nexts, 0 ≤ p.1 ∧ p.1 ≤ 1000 ∧ p.2 < n
  nm : 0 ≤ r.name ∧ r.name ≤ 99
  bd : 0 ≤ r.bound ∧ r.bound ≤ 100000
/-- data that Told lets by -/
structure Dat.W (D : Dat) : Prop where
  l : 1 ≤ D.rows.length ∧ D.rows.length ≤ 24
  r : ∀ r ∈ D.rows, RowW D.rows.length r
  ml : D.maps.length ≤ 3
  m : ∀ m ∈ D.maps, m.length = D.rows.length ∧ ∀ z ∈ m, z < D.rows.length
  eh : D.ends.isSome = D.heads.isSome
  e : ∀ es, D.ends = some es → es.length ≤ 24 ∧ (∀ z ∈ es, z < D.rows.length) ∧ es.Pairwise (· < ·)
  h : ∀ hs, D.heads = some hs → hs.length = D.rows.length ∧ ∀ ps ∈ hs, ps.length ≤ 200 ∧ ∀ p ∈ ps, 0 ≤ p.1 ∧ p.1 ≤ 1000 ∧ p.2 < D.rows.length
theorem RowOk.w {n : Nat} {r : Row} (h : RowOk n r) : RowW n r := ⟨by have := h.l; omega, fun p hp => ⟨(h.p p hp).1, by have := (h.p p hp).2.1; omega, (h.p p hp).2.2⟩, ⟨h.nm.1, by have := h.nm.2; omega⟩, ⟨h.bd.1, by have := h.bd.2; omega⟩⟩
theorem pw_stops : ∀ (rs : List Row) (k : Nat), ((rs.zipIdx k).filterMap fun p => if p.1.done then some p.2 else none).Pairwise (· < ·) ∧ ∀ z ∈ (rs.zipIdx k).filterMap (fun p => if p.1.done then some p.2 else none), k ≤ z ∧ z < k + rs.length
  | [], k => ⟨List.Pairwise.nil, fun _ h => nomatch h⟩
  | r :: rs, k => by
    obtain ⟨h1, h2⟩ := pw_stops rs (k + 1)
    rw [List.zipIdx_cons, List.filterMap_cons]
    have h3 : ∀ z ∈ (rs.zipIdx (k + 1)).filterMap (fun p => if p.1.done then some p.2 else none), k ≤ z ∧ z < k + (r :: rs).length := fun z hz => by have := h2 z hz; rw [List.length_cons]; omega
    cases hd : r.done with
    | false => rw [if_neg (by simp [hd])]; exact ⟨h1, h3⟩
    | true =>
      rw [if_pos (by simp [hd])]
      refine ⟨List.pairwise_cons.mpr ⟨fun z hz => by have := h2 z hz; show k < z; omega, h1⟩, fun z hz => ?_⟩
      rcases List.mem_cons.mp hz with rfl | hz
      · rw [List.length_cons]; omega
      · exact h3 z hz
theorem stops_ok (rs : List Row) : (stopsF rs).Pairwise (· < ·) ∧ (∀ z ∈ stopsF rs, z < rs.length) ∧ (stopsF rs).length ≤ rs.length := by
  refine ⟨(pw_stops rs 0).1, fun z hz => ?_, ?_⟩
  · have := (pw_stops rs 0).2 z hz; omega
  · have : (stopsF rs).length ≤ rs.zipIdx.length := List.length_filterMap_le ..
    rwa [List.length_zipIdx] at this
theorem fronts_ok {rs : List Row} (hl : rs.length ≤ 24) (hr : ∀ r ∈ rs, RowOk rs.length r) : (frontsF rs).length = rs.length ∧ ∀ ps ∈ frontsF rs, ps.length ≤ 200 ∧ ∀ p ∈ ps, 0 ≤ p.1 ∧ p.1 ≤ 1000 ∧ p.2 < rs.length := by
  refine ⟨by unfold frontsF; rw [List.length_map, List.length_range], fun ps hps => ?_⟩
  obtain ⟨t, _, rfl⟩ := List.mem_map.mp hps
  refine ⟨by have := front_len (t := t) (rs := rs) fun r h => (hr r h).l; omega, fun p hp => ?_⟩
  obtain ⟨q, hq, hp⟩ := List.mem_flatMap.mp hp
  obtain ⟨a, ha, e⟩ := List.mem_filterMap.mp hp
  have h1 := (hr q.1 (List.mem_of_getElem? (zip_mem hq))).p a ha
  have h2 := zip_lt hq
  split at e
  · cases e; exact ⟨h1.1, by have := h1.2.1; show a.1 ≤ 1000; omega, h2⟩
  · cases e
theorem Dat.Ok.w {D : Dat} (h : D.Ok) : D.W := by
  refine ⟨h.l, fun r hr => (h.r r hr).w, Nat.le_trans h.ml (by decide), h.m, ?_, ?_, ?_⟩
  · rcases h.e with ⟨a, b⟩ | ⟨a, b⟩ <;> rw [a, b] <;> rfl
  · intro es he
    rcases h.e with ⟨a, b⟩ | ⟨a, b⟩
    · rw [a] at he; cases he
    · rw [a] at he; cases he
      have := stops_ok D.rows
      have hl := h.l
      exact ⟨by omega, this.2.1, this.1⟩
  · intro hs he
    rcases h.e with ⟨a, b⟩ | ⟨a, b⟩
    · rw [b] at he; cases he
    · rw [b] at he; cases he
      exact fronts_ok h.l.2 h.r
theorem fr_cs (cs : List Cls) : (classesM cs).frz = some (classesM cs) := rfl
theorem dr_cs (cs : List Cls) (M : Store) : (classesM cs).dr M = .lst .fz (cs.map classM) := rfl
section
variable {T : Tab} {d b : Nat} {M : Store} {most : Int}
end
end TK
end Q

/-! ExK: Told lets its data by. -/
namespace Q
open PySem
local macro_rules
  | `(tactic| simp_arith [$as,*]) => `(tactic| simp only [$as,*, evSs, evS, evT, evF, evE, evFs, evEs, evO, rb, ro, get0, getS, dr_int, dr_lst, dr_bl, dr_tup, dr_non, dr_str, t_bl, fr_int, fr_bl, fr_str, fr_non, fr_tup, fr_nw, fr_fz, fr_ro, fr_ref, ou_int, ou_bl, ou_tup, ou_nw, ou_fz, ou_bw, ou_ref, ou_non, ou_str, ix_l, ix_t, b_add, b_sub, l_len, l_lent, atM_0, atM_1, atM_2, List.getElem?_cons_zero, List.getElem?_cons_succ, List.length_cons, List.length_nil, List.replicate, List.cons_append, List.nil_append, if_true, Bool.false_eq_true, map1, map2, if_false, szif (Nat.zero_le _), nx_s, so_l, so_d, sv_, bg_, get0o, l_abs, c_ge, c_lt, c_gt, c_le, sl_l, sl_t, it_f, it_t, bi_abs, bi_len, List.set_cons_zero, List.set_cons_succ, Nat.reduceAdd, Nat.reduceLT, Option.map_some, szif (by decide : 1 ≤ 16777216), szif (by decide : 2 ≤ 16777216), szif (by decide : 3 ≤ 16777216), szif (by decide : 4 ≤ 16777216), szif (by decide : 5 ≤ 16777216), szif (by decide : 6 ≤ 16777216), szif (by decide : 7 ≤ 16777216), szif (by decide : 8 ≤ 16777216), szif (by decide : 9 ≤ 16777216), bnd, sq_l, sq_t, wp_n, wp_c, bi_tuple, l_tpl, l_tpt])
theorem ty_bb (T : Tab) (M : Store) (b : Bool) : isTy T M (.bl b) .bool = some true := rfl
theorem ne22 : cmpM .ne (.int ((2 : Nat) : Int)) (.int 2) = some false := rfl
theorem ne55 : cmpM .ne (.int ((5 : Nat) : Int)) (.int 5) = some false := rfl
theorem l_alltrue {α : Type} {k : Kd} {js : List α} : evBi .all [.lst k (js.map fun _ => MV.bl true)] = some (.bl true) := by
  rw [l_all (g := fun _ : α => true)]
  simp
namespace TK
def fdPairs : Fd := ⟨3, 4, [.iff (.orr (.nt (.isin (.var 0) .tup)) (.cmp .gt (.bi .len (.cons (.var 0) (.nil))) (.var 1))) [.ret (.con (.bl false))] [], .forr (.nm 3) (.var 0) [.iff (.orr (.nt (.isin (.var 3) .tup)) (.cmp .ne (.bi .len (.cons (.var 3) (.nil))) (.con (.int 2)))) [.ret (.con (.bl false))] [], .iff (.orr (.nt (.call 49 (.cons (.idx (.var 3) (.con (.int 0))) (.cons (.con (.int 0)) (.cons (.con (.int 1000)) (.nil)))))) (.nt (.call 49 (.cons (.idx (.var 3) (.con (.int 1))) (.cons (.con (.int 0)) (.cons (.bin .sub (.var 2) (.con (.int 1))) (.nil))))))) [.ret (.con (.bl false))] []], .ret (.con (.bl true))]⟩
def fdToldRow : Fd := ⟨2, 7, [.iff (.orr (.nt (.isin (.var 0) .tup)) (.orr (.cmp .ne (.bi .len (.cons (.var 0) (.nil))) (.con (.int 5))) (.nt (.call 51 (.cons (.idx (.var 0) (.con (.int 0))) (.cons (.con (.int 8)) (.cons (.var 1) (.nil)))))))) [.ret (.con (.bl false))] [], .asg (.tup [.nm 2, .nm 3, .nm 4, .nm 5, .nm 6]) (.var 0), .iff (.orr (.nt (.isin (.var 3) .bool)) (.nt (.isin (.var 6) .bool))) [.ret (.con (.bl false))] [], .ret (.andd (.call 49 (.cons (.var 4) (.cons (.con (.int 0)) (.cons (.con (.int 99)) (.nil))))) (.call 49 (.cons (.var 5) (.cons (.con (.int 0)) (.cons (.con (.int 100000)) (.nil))))))]⟩
def fdNumbers : Fd := ⟨2, 3, [.ret (.andd (.isin (.var 0) .tup) (.bi .all (.cons (.lc (.call 49 (.cons (.var 2) (.cons (.con (.int 0)) (.cons (.bin .sub (.var 1) (.con (.int 1))) (.nil))))) [2] (.nm 2) (.var 0) (.con (.bl true))) (.nil))))]⟩
def fdLookRows : Fd := ⟨1, 3, [.iff (.orr (.nt (.isin (.var 0) .tup)) (.nt (.chain .le .le (.con (.int 1)) (.bi .len (.cons (.var 0) (.nil))) (.con (.int 24))))) [.rais] [], .forr (.tup [.nm 1, .nm 2]) (.bi .enum (.cons (.var 0) (.nil))) [.iff (.nt (.call 52 (.cons (.var 2) (.cons (.bi .len (.cons (.var 0) (.nil))) (.nil))))) [.rais] []]]⟩
def fdLookTurns : Fd := ⟨2, 4, [.iff (.nt (.isin (.var 0) .tup)) [.rais] [], .forr (.tup [.nm 2, .nm 3]) (.bi .enum (.cons (.var 0) (.nil))) [.iff (.orr (.cmp .eq (.var 2) (.con (.int 3))) (.orr (.nt (.call 53 (.cons (.var 3) (.cons (.var 1) (.nil))))) (.cmp .ne (.bi .len (.cons (.var 3) (.nil))) (.var 1)))) [.rais] []]]⟩
def fdLookEnds : Fd := ⟨3, 5, [.iff (.cmp .notN (.var 0) (.con (.non))) [.iff (.orr (.nt (.call 53 (.cons (.var 0) (.cons (.var 2) (.nil))))) (.cmp .ne (.lc (.var 3) [3] (.nm 3) (.bi .range1 (.cons (.bin .sub (.bi .len (.cons (.var 0) (.nil))) (.con (.int 1))) (.nil))) (.cmp .ge (.idx (.var 0) (.var 3)) (.idx (.var 0) (.bin .add (.var 3) (.con (.int 1)))))) (.lst (.nil)))) [.rais] []] [], .iff (.cmp .ne (.cmp .isN (.var 0) (.con (.non))) (.cmp .isN (.var 1) (.con (.non)))) [.rais] [], .iff (.cmp .notN (.var 1) (.con (.non))) [.iff (.orr (.nt (.isin (.var 1) .tup)) (.cmp .ne (.bi .len (.cons (.var 1) (.nil))) (.var 2))) [.rais] [], .iff (.nt (.bi .all (.cons (.lc (.call 51 (.cons (.var 4) (.cons (.con (.int 200)) (.cons (.var 2) (.nil))))) [4] (.nm 4) (.var 1) (.con (.bl true))) (.nil)))) [.rais] []] []]⟩
def fdInit : Fd := ⟨5, 5, [.expr (.call 54 (.cons (.var 1) (.nil))), .expr (.call 55 (.cons (.var 2) (.cons (.bi .len (.cons (.var 1) (.nil))) (.nil)))), .expr (.call 56 (.cons (.var 3) (.cons (.var 4) (.cons (.bi .len (.cons (.var 1) (.nil))) (.nil))))), .setF (.var 0) 14 (.var 1), .setF (.var 0) 15 (.var 2), .setF (.var 0) 16 (.var 3), .setF (.var 0) 17 (.var 4)]⟩
structure TbI (T : Tab) : Prop where
  h1 : T.fn 1 = some K13.fdWhole
  h49 : T.fn 49 = some (K13.fdWithin 1)
  h51 : T.fn 51 = some fdPairs
  h52 : T.fn 52 = some fdToldRow
  h53 : T.fn 53 = some fdNumbers
  h54 : T.fn 54 = some fdLookRows
  h55 : T.fn 55 = some fdLookTurns
  h56 : T.fn 56 = some fdLookEnds
  h58 : T.fn 58 = some fdInit
  c14 : T.cf 3 14 = true
  c15 : T.cf 3 15 = true
  c16 : T.cf 3 16 = true
  c17 : T.cf 3 17 = true
section
variable {T : Tab} {d : Nat} {M : Store}
theorem within_t (t : TbI T) {i a b : Int} (h : a ≤ i ∧ i ≤ b) : evC T (d + 2) 49 [.int i, .int a, .int b] M = .ok (.bl true) M := by
  rw [K13.within_ok t.h49 t.h1, decide_eq_true h.1, decide_eq_true h.2]; rfl
theorem pairs_ok (t : TbI T) {ps : List (Int × Nat)} {mo ni : Int} {n : Nat} (eni : ni = (n : Int)) (hl : (ps.length : Int) ≤ mo) (hp : ∀ p ∈ ps, 0 ≤ p.1 ∧ p.1 ≤ 1000 ∧ p.2 < n) : evC T (d + 3) 51 [nextsM ps, .int mo, .int ni] M = .ok (.bl true) M := by
  have hl' : ((ps.map pairM).length : Int) ≤ mo := by rw [List.length_map]; exact hl
  refine sat_eq (sat_call [some (.v (nextsM ps)), some (.v (.int mo)), some (.v (.int ni)), none] t.h51 rfl rfl ?_)
  simp only [fdPairs]
  refine sat_next (ρ1 := [some (.v (nextsM ps)), some (.v (.int mo)), some (.v (.int ni)), none]) (M1 := M) (by simp_arith [nextsM, ty_tt, Bool.not_true, decide_eq_false (Int.not_lt.mpr hl')]) ?_
  refine sat_cons (R := fun r M' => M' = M ∧ ∃ y3 : Option SV, r = (.nx, [some (.v (nextsM ps)), some (.v (.int mo)), some (.v (.int ni)), y3])) ?_ ?_
  · refine sat_fort (v := nextsM ps) (M1 := M) pairM ps (fun xs ρ M' => M' = M ∧ (∀ p ∈ xs, p ∈ ps) ∧ ∃ y3 : Option SV, ρ = [some (.v (nextsM ps)), some (.v (.int mo)), some (.v (.int ni)), y3]) (by simp_arith [nextsM]) rfl ?_ ?_ ?_
    · exact ⟨rfl, fun _ h => h, none, rfl⟩
    · rintro p xs ρ M' ⟨rfl, hx, y3, rfl⟩
      have h1 := hp p (hx p (List.mem_cons_self ..))
      refine ⟨[some (.v (nextsM ps)), some (.v (.int mo)), some (.v (.int ni)), some (.v (pairM p))], rfl, ?_⟩
      have w1 := within_t (d := d) (M := M') t (i := p.1) (a := 0) (b := 1000) ⟨h1.1, h1.2.1⟩
      have w2 := within_t (d := d) (M := M') t (i := (p.2 : Int)) (a := 0) (b := ni - 1) (by omega)
      simp_arith [pairM, ty_tt, ne22, w1, w2, Bool.not_true]
      exact sat_ok ⟨rfl, fun p h => hx p (List.mem_cons_of_mem _ h), some (.v (pairM p)), rfl⟩
    · rintro ρ M' ⟨rfl, _, y3, rfl⟩
      exact ⟨rfl, y3, rfl⟩
  · rintro _ M' ⟨rfl, y3, rfl⟩
    simp_arith [evSs]
    exact sat_ok ⟨rfl, rfl⟩
theorem toldrow_ok (t : TbI T) {r : Row} {n : Nat} {ni : Int} (eni : ni = (n : Int)) (hr : RowW n r) : evC T (d + 4) 52 [rowM r, .int ni] M = .ok (.bl true) M := by
  obtain ⟨ns, dn, nm, bd, ct⟩ := r
  have p1 := pairs_ok (d := d) (M := M) (mo := 8) t eni (by have := hr.l; simp at this ⊢; omega) hr.p
  have w1 := within_t (d := d + 1) (M := M) t (i := nm) (a := 0) (b := 99) hr.nm
  have w2 := within_t (d := d + 1) (M := M) t (i := bd) (a := 0) (b := 100000) hr.bd
  refine sat_eq (sat_call [some (.v (rowM ⟨ns, dn, nm, bd, ct⟩)), some (.v (.int ni)), none, none, none, none, none] t.h52 rfl rfl ?_)
  simp only [fdToldRow]
  have fn : (nextsM ns).frz = some (nextsM ns) := rfl
  simp_arith [rowM, ty_tt, ty_bb, ne55, p1, w1, w2, fn, bg_t, bindGs, bgs_n, Bool.not_true]
  exact sat_ok ⟨rfl, rfl⟩
theorem numbers_ok (t : TbI T) {ms : List Nat} {n : Nat} {ni : Int} (eni : ni = (n : Int)) (hl : ms.length ≤ 1000) (hm : ∀ z ∈ ms, z < n) : evC T (d + 3) 53 [mapM ms, .int ni] M = .ok (.bl true) M := by
  refine sat_eq (sat_call [some (.v (mapM ms)), some (.v (.int ni)), none] t.h53 rfl rfl ?_)
  simp_arith [fdNumbers, mapM, ty_tt]
  rw [lc_map (fun _ => some (.bl true)) ?_ (Nat.le_trans hl (by decide))]
  · simp_arith [K13.fm_some, l_alltrue, bi_all]
    exact sat_ok ⟨rfl, rfl⟩
  · intro z hz
    have w1 := within_t (d := d) (M := M) t (i := (z : Int)) (a := 0) (b := ni - 1) (by have := hm z hz; omega)
    simp_arith [natM, w1]
theorem lookrows_ok (t : TbI T) {rs : List Row} (hl : 1 ≤ rs.length ∧ rs.length ≤ 24) (hr : ∀ r ∈ rs, RowW rs.length r) : evC T (d + 5) 54 [rowsM rs] M = .ok .non M := by
  obtain ⟨ni, eni⟩ : ∃ ni : Int, ni = (rs.length : Int) := ⟨_, rfl⟩
  have hll : ((rs.map rowM).length : Int) = ni := by rw [List.length_map, eni]
  refine sat_eq (sat_call [some (.v (rowsM rs)), none, none] t.h54 rfl rfl ?_)
  simp only [fdLookRows]
  refine sat_next (ρ1 := [some (.v (rowsM rs)), none, none]) (M1 := M) (by simp_arith [rowsM, ty_tt, hll, decide_eq_true (show (1 : Int) ≤ ni by omega), decide_eq_true (show ni ≤ (24 : Int) by omega), Bool.not_true]) ?_
  refine sat_cons (R := fun r M' => M' = M ∧ ∃ y1 y2 : Option SV, r = (.nx, [some (.v (rowsM rs)), y1, y2])) ?_ ?_
  · refine sat_fort (v := .lst .fz (rs.zipIdx.map (enM rowM))) (M1 := M) (enM rowM) rs.zipIdx (fun xs ρ M' => M' = M ∧ (∀ p ∈ xs, p ∈ rs.zipIdx) ∧ ∃ y1 y2 : Option SV, ρ = [some (.v (rowsM rs)), y1, y2]) (by simp_arith [rowsM, bi_enum, l_ent, en_map, kd_t]) rfl ?_ ?_ ?_
    · exact ⟨rfl, fun _ h => h, none, none, rfl⟩
    · rintro p xs ρ M' ⟨rfl, hx, y1, y2, rfl⟩
      have hpm := hx p (List.mem_cons_self ..)
      have h1 := toldrow_ok (d := d) (M := M') t eni (hr p.1 (List.mem_of_getElem? (zip_mem hpm)))
      have fr : (rowM p.1).frz = some (rowM p.1) := rfl
      refine ⟨[some (.v (rowsM rs)), some (.v (.int (p.2 : Int))), some (.v (rowM p.1))], rfl, ?_⟩
      simp_arith [rowsM, fr, hll, h1, Bool.not_true]
      exact sat_ok ⟨rfl, fun p h => hx p (List.mem_cons_of_mem _ h), some (.v (.int (p.2 : Int))), some (.v (rowM p.1)), rfl⟩
    · rintro ρ M' ⟨rfl, _, y1, y2, rfl⟩
      exact ⟨rfl, y1, y2, rfl⟩
  · rintro _ M' ⟨rfl, y1, y2, rfl⟩
    exact sat_nil ⟨trivial, rfl⟩
theorem lookturns_ok (t : TbI T) {ms : List (List Nat)} {n : Nat} {ni : Int} (eni : ni = (n : Int)) (hn : n ≤ 24) (hl : ms.length ≤ 3) (hm : ∀ m ∈ ms, m.length = n ∧ ∀ z ∈ m, z < n) : evC T (d + 4) 55 [mapsM ms, .int ni] M = .ok .non M := by
  refine sat_eq (sat_call [some (.v (mapsM ms)), some (.v (.int ni)), none, none] t.h55 rfl rfl ?_)
  simp only [fdLookTurns]
  refine sat_next (ρ1 := [some (.v (mapsM ms)), some (.v (.int ni)), none, none]) (M1 := M) (by simp_arith [mapsM, ty_tt, Bool.not_true]) ?_
  refine sat_cons (R := fun r M' => M' = M ∧ ∃ y1 y2 : Option SV, r = (.nx, [some (.v (mapsM ms)), some (.v (.int ni)), y1, y2])) ?_ ?_
  · refine sat_fort (v := .lst .fz (ms.zipIdx.map (enM mapM))) (M1 := M) (enM mapM) ms.zipIdx (fun xs ρ M' => M' = M ∧ (∀ p ∈ xs, p ∈ ms.zipIdx) ∧ ∃ y1 y2 : Option SV, ρ = [some (.v (mapsM ms)), some (.v (.int ni)), y1, y2]) (by simp_arith [mapsM, bi_enum, l_ent, en_map, kd_t]) rfl ?_ ?_ ?_
    · exact ⟨rfl, fun _ h => h, none, none, rfl⟩
    · rintro ⟨m, k⟩ xs ρ M' ⟨rfl, hx, y1, y2, rfl⟩
      have hpm := hx (m, k) (List.mem_cons_self ..)
      have hk : k < ms.length := zip_lt hpm
      have hmm := hm m (List.mem_of_getElem? (zip_mem hpm))
      obtain ⟨ki, eki⟩ : ∃ ki : Int, ki = (k : Int) := ⟨_, rfl⟩
      have h3 : (ki == 3) = false := beq_eq_false_iff_ne.mpr (by omega)
      have h1 := numbers_ok (d := d) (M := M') t eni (ms := m) (by omega) hmm.2
      have hne : cmpM .ne (.int (((m.map natM).length : Nat) : Int)) (.int ni) = some false := by rw [List.length_map, hmm.1, ← eni, c_nei, beq_self_eq_true]; rfl
      have dm : ∀ M, (mapM m).dr M = .tup (m.map natM) := fun _ => rfl
      have fm : (mapM m).frz = some (mapM m) := rfl
      refine ⟨[some (.v (mapsM ms)), some (.v (.int ni)), some (.v (.int ki)), some (.v (mapM m))], by rw [eki]; rfl, ?_⟩
      simp_arith [c_eqi, h3, fm, dm, h1, hne, Bool.not_true]
      exact sat_ok ⟨rfl, fun p h => hx p (List.mem_cons_of_mem _ h), some (.v (.int ki)), some (.v (mapM m)), rfl⟩
    · rintro ρ M' ⟨rfl, _, y1, y2, rfl⟩
      exact ⟨rfl, y1, y2, rfl⟩
  · rintro _ M' ⟨rfl, y1, y2, rfl⟩
    exact sat_nil ⟨trivial, rfl⟩
end
end TK
end Q

/-! ExL: Told lets its data by: ends, the making. -/
namespace Q
open PySem
local macro_rules
  | `(tactic| simp_arith [$as,*]) => `(tactic| simp only [$as,*, evSs, evS, evT, evF, evE, evFs, evEs, evO, rb, ro, get0, getS, dr_int, dr_lst, dr_bl, dr_tup, dr_non, dr_str, t_bl, fr_int, fr_bl, fr_str, fr_non, fr_tup, fr_nw, fr_fz, fr_ro, fr_ref, ou_int, ou_bl, ou_tup, ou_nw, ou_fz, ou_bw, ou_ref, ou_non, ou_str, ix_l, ix_t, b_add, b_sub, l_len, l_lent, atM_0, atM_1, atM_2, List.getElem?_cons_zero, List.getElem?_cons_succ, List.length_cons, List.length_nil, List.replicate, List.cons_append, List.nil_append, if_true, Bool.false_eq_true, map1, map2, if_false, szif (Nat.zero_le _), nx_s, so_l, so_d, sv_, bg_, get0o, l_abs, c_ge, c_lt, c_gt, c_le, sl_l, sl_t, it_f, it_t, bi_abs, bi_len, List.set_cons_zero, List.set_cons_succ, Nat.reduceAdd, Nat.reduceLT, Option.map_some, szif (by decide : 1 ≤ 16777216), szif (by decide : 2 ≤ 16777216), szif (by decide : 3 ≤ 16777216), szif (by decide : 4 ≤ 16777216), szif (by decide : 5 ≤ 16777216), szif (by decide : 6 ≤ 16777216), szif (by decide : 7 ≤ 16777216), szif (by decide : 8 ≤ 16777216), szif (by decide : 9 ≤ 16777216), bnd, sq_l, sq_t, wp_n, wp_c, bi_tuple, l_tpl, l_tpt])
theorem ne_nilG (k l : Kd) {xs : List MV} (h : ∀ x ∈ xs, x.shp 59 = true) : cmpM .ne (.lst k xs) (.lst l []) = some (!xs.isEmpty) := by
  have hs : MV.shp 60 (.lst k xs) = true := by
    show xs.all (MV.shp 59) = true
    rw [List.all_eq_true]; exact h
  simp only [cmpM]
  rw [hs, shp_nil]
  show some _ = _
  cases xs with
  | nil => simp [MV.eqv, MV.py, MV.pyL, PyData.eqv, PyData.eqvAll]
  | cons x xs =>
    have := pyL_nil (x :: xs) (by simp)
    simp only [MV.eqv, MV.py]
    rw [show MV.pyL [] = [] from rfl, this]
    rfl
theorem ne_nn (k l : Kd) : cmpM .ne (.lst k []) (.lst l []) = some false := ne_nilG k l fun _ h => nomatch h
theorem c_neb (a b : Bool) : cmpM .ne (.bl a) (.bl b) = some (!(a == b)) := by cases a <;> cases b <;> rfl
theorem rangeL_empty {j : Int} (h : j ≤ 0) : rangeL 0 j = [] := by
  unfold rangeL
  rw [show (j - 0).toNat = 0 by omega]
  rfl
namespace TK
theorem dr_ends (e : Option (List Nat)) (M : Store) : (endsM e).dr M = endsM e := by cases e <;> rfl
theorem fr_ends (e : Option (List Nat)) : (endsM e).frz = some (endsM e) := by cases e <;> rfl
theorem non_ends (e : Option (List Nat)) : (endsM e).isNon = !e.isSome := by cases e <;> rfl
theorem dr_heads (e : Option (List (List (Int × Nat)))) (M : Store) : (headsM e).dr M = headsM e := by cases e <;> rfl
theorem fr_heads (e : Option (List (List (Int × Nat)))) : (headsM e).frz = some (headsM e) := by cases e <;> rfl
theorem non_heads (e : Option (List (List (Int × Nat)))) : (headsM e).isNon = !e.isSome := by cases e <;> rfl
theorem dr_rows (rs : List Row) (M : Store) : (rowsM rs).dr M = .tup (rs.map rowM) := rfl
theorem fr_rows (rs : List Row) : (rowsM rs).frz = some (rowsM rs) := rfl
theorem fr_maps (rs : List (List Nat)) : (mapsM rs).frz = some (mapsM rs) := rfl
section
variable {T : Tab} {d : Nat} {M : Store}
theorem lookends_ok (t : TbI T) {es : Option (List Nat)} {hs : Option (List (List (Int × Nat)))} {n : Nat} {ni : Int} (eni : ni = (n : Int)) (hn : n ≤ 24) (heh : es.isSome = hs.isSome) (he : ∀ e, es = some e → e.length ≤ 24 ∧ (∀ z ∈ e, z < n) ∧ e.Pairwise (· < ·)) (hh : ∀ h, hs = some h → h.length = n ∧ ∀ ps ∈ h, ps.length ≤ 200 ∧ ∀ p ∈ ps, 0 ≤ p.1 ∧ p.1 ≤ 1000 ∧ p.2 < n) :
    evC T (d + 4) 56 [endsM es, headsM hs, .int ni] M = .ok .non M := by
  refine sat_eq (sat_call [some (.v (endsM es)), some (.v (headsM hs)), some (.v (.int ni)), none, none] t.h56 rfl rfl ?_)
  simp only [fdLookEnds]
  refine sat_next (ρ1 := [some (.v (endsM es)), some (.v (headsM hs)), some (.v (.int ni)), none, none]) (M1 := M) ?_ ?_
  · cases es with
    | none => simp_arith [endsM, c_notNQ, MV.isNon, Bool.not_true]
    | some e =>
      obtain ⟨hl, hz, hp⟩ := he e rfl
      have h1 := numbers_ok (d := d) (M := M) t eni (ms := e) (by omega) hz
      have h1' : evC T (d + 3) 53 [.tup (e.map natM), .int ni] M = .ok (.bl true) M := h1
      obtain ⟨li, eli⟩ : ∃ li : Int, li = (e.length : Int) := ⟨_, rfl⟩
      have hll : ((e.map natM).length : Int) = li := by rw [List.length_map, eli]
      obtain ⟨ks, hks, hkl⟩ : ∃ ks : List Nat, rangeL 0 (li - 1) = ks.map natM ∧ ∀ k ∈ ks, k + 1 < e.length := by
        rcases Nat.eq_zero_or_pos e.length with h0 | h0
        · exact ⟨[], rangeL_empty (by omega), fun _ h => nomatch h⟩
        · refine ⟨List.range (e.length - 1), ?_, fun k hk => ?_⟩
          · rw [← rangeL_nat, show (((e.length - 1 : Nat)) : Int) = li - 1 by omega]
          · have := List.mem_range.mp hk; omega
      have hkz : ks.length ≤ SZ := by
        have h0 : (rangeL 0 (li - 1)).length = ks.length := by rw [hks, List.length_map]
        unfold rangeL at h0
        rw [List.length_map, List.length_range] at h0
        show _ ≤ 16777216
        omega
      simp_arith [endsM, c_notNQ, MV.isNon, Bool.not_false, h1', Bool.not_true, hll, bi_r1, l_r1 (li - 1) (by omega), hks]
      rw [lc_map (fun _ => none) ?_ hkz]
      · have e0 : ks.filterMap (fun _ => (none : Option MV)) = [] := by rw [List.filterMap_eq_nil_iff]; exact fun _ _ => rfl
        simp_arith [e0, ne_nn]
      · intro k hk
        have hk1 := hkl k hk
        have a1 := at_natM (r := e) (k := k) (by omega)
        have a2 := at_natM (r := e) (k := k + 1) hk1
        obtain ⟨ki, eki⟩ : ∃ ki : Int, ki = (k : Int) := ⟨_, rfl⟩
        rw [← eki] at a1
        rw [show (((k + 1 : Nat)) : Int) = ki + 1 by omega] at a2
        have hlt : e[k] < e[k + 1] := List.pairwise_iff_getElem.mp hp k (k + 1) _ _ (Nat.lt_succ_self k)
        have hge : decide (((e[k + 1] : Nat) : Int) ≤ ((e[k] : Nat) : Int)) = false := decide_eq_false (by omega)
        have hnk : natM k = .int ki := by rw [eki]; rfl
        have n1 : natM e[k] = .int ((e[k] : Nat) : Int) := rfl
        have n2 : natM e[k + 1] = .int ((e[k + 1] : Nat) : Int) := rfl
        rw [n1] at a1
        rw [n2] at a2
        simp_arith [hnk, a1, a2, hge]
  have hb : ((!es.isSome) == (!hs.isSome)) = true := by rw [heh]; exact beq_self_eq_true (!hs.isSome)
  have hb' : cmpM .ne (.bl (!es.isSome)) (.bl (!hs.isSome)) = some false := by rw [c_neb, hb]; rfl
  refine sat_next (ρ1 := [some (.v (endsM es)), some (.v (headsM hs)), some (.v (.int ni)), none, none]) (M1 := M) (by simp_arith [dr_ends, dr_heads, c_isNQ, non_ends, non_heads, hb']) ?_
  refine sat_next (ρ1 := [some (.v (endsM es)), some (.v (headsM hs)), some (.v (.int ni)), none, none]) (M1 := M) ?_ (sat_nil ⟨trivial, rfl⟩)
  cases hs with
  | none => simp_arith [headsM, c_notNQ, MV.isNon, Bool.not_true]
  | some h =>
    obtain ⟨hl, hp⟩ := hh h rfl
    have hne : cmpM .ne (.int (((h.map nextsM).length : Nat) : Int)) (.int ni) = some false := by rw [List.length_map, hl, ← eni, c_nei, beq_self_eq_true]; rfl
    simp_arith [headsM, c_notNQ, MV.isNon, Bool.not_false, ty_tt, hne, Bool.not_true]
    rw [lc_map (fun _ => some (.bl true)) ?_ (by show _ ≤ 16777216; omega)]
    · simp_arith [K13.fm_some, l_alltrue, bi_all, Bool.not_true]
    · intro ps hps
      have h1 := pairs_ok (d := d) (M := M) (mo := 200) t eni (by have := (hp ps hps).1; omega) (hp ps hps).2
      have fn : (nextsM ps).frz = some (nextsM ps) := rfl
      simp_arith [fn, h1]
def Fs (D : Dat) : List (Nat × MV) := [(14, rowsM D.rows), (15, mapsM D.maps), (16, endsM D.ends), (17, headsM D.heads)]
theorem init_ok (t : TbI T) {D : Dat} (hD : D.W) {n : Nat} (hM : M.ob n = some (.ins 3 [])) : evC T (d + 6) 58 [.ref n, rowsM D.rows, mapsM D.maps, endsM D.ends, headsM D.heads] M = .ok .non (M.put n (.ins 3 (Fs D))) := by
  obtain ⟨ni, eni⟩ : ∃ ni : Int, ni = (D.rows.length : Int) := ⟨_, rfl⟩
  have hll : ((D.rows.map rowM).length : Int) = ni := by rw [List.length_map, eni]
  have x1 := lookrows_ok (d := d) (M := M) t hD.l hD.r
  have x2 := lookturns_ok (d := d + 1) (M := M) t eni hD.l.2 hD.ml hD.m
  have x3 := lookends_ok (d := d + 1) (M := M) t eni hD.l.2 hD.eh hD.e hD.h
  refine sat_eq (sat_call [some (.v (.ref n)), some (.v (rowsM D.rows)), some (.v (mapsM D.maps)), some (.v (endsM D.ends)), some (.v (headsM D.heads))] t.h58 rfl rfl ?_)
  simp only [fdInit]
  refine sat_next (ρ1 := [some (.v (.ref n)), some (.v (rowsM D.rows)), some (.v (mapsM D.maps)), some (.v (endsM D.ends)), some (.v (headsM D.heads))]) (M1 := M) (by simp_arith [fr_rows, x1]) ?_
  refine sat_next (ρ1 := [some (.v (.ref n)), some (.v (rowsM D.rows)), some (.v (mapsM D.maps)), some (.v (endsM D.ends)), some (.v (headsM D.heads))]) (M1 := M) (by simp_arith [fr_maps, dr_rows, hll, x2]) ?_
  refine sat_next (ρ1 := [some (.v (.ref n)), some (.v (rowsM D.rows)), some (.v (mapsM D.maps)), some (.v (endsM D.ends)), some (.v (headsM D.heads))]) (M1 := M) (by simp_arith [fr_ends, fr_heads, dr_rows, hll, x3]) ?_
  have p1 : putF 14 (rowsM D.rows) [] = [(14, rowsM D.rows)] := rfl
  have p2 : putF 15 (mapsM D.maps) [(14, rowsM D.rows)] = [(14, rowsM D.rows), (15, mapsM D.maps)] := rfl
  have p3 : putF 16 (endsM D.ends) [(14, rowsM D.rows), (15, mapsM D.maps)] = [(14, rowsM D.rows), (15, mapsM D.maps), (16, endsM D.ends)] := rfl
  have p4 : putF 17 (headsM D.heads) [(14, rowsM D.rows), (15, mapsM D.maps), (16, endsM D.ends)] = Fs D := rfl
  have l0 : ∀ k : Nat, k < 10 → k < 900 := fun k h => by omega
  simp_arith [fr_rows, fr_maps, fr_ends, fr_heads, ins_r hM, ins_put, put_put, t.c14, t.c15, t.c16, t.c17, p1, p2, p3, p4, and_self, and_true, l0 0 (by decide), l0 1 (by decide), l0 2 (by decide), l0 3 (by decide)]
  exact sat_ok ⟨trivial, rfl⟩
end
end TK
end Q

/-! ExM: Told is made; shorter rules for statements. -/
namespace Q
open PySem
local macro_rules
  | `(tactic| simp_arith [$as,*]) => `(tactic| simp only [$as,*, evSs, evS, evT, evF, evE, evFs, evEs, evO, rb, ro, get0, getS, dr_int, dr_lst, dr_bl, dr_tup, dr_non, dr_str, t_bl, fr_int, fr_bl, fr_str, fr_non, fr_tup, fr_nw, fr_fz, fr_ro, fr_ref, ou_int, ou_bl, ou_tup, ou_nw, ou_fz, ou_bw, ou_ref, ou_non, ou_str, ix_l, ix_t, b_add, b_sub, l_len, l_lent, atM_0, atM_1, atM_2, List.getElem?_cons_zero, List.getElem?_cons_succ, List.length_cons, List.length_nil, List.replicate, List.cons_append, List.nil_append, if_true, Bool.false_eq_true, map1, map2, if_false, szif (Nat.zero_le _), nx_s, so_l, so_d, sv_, bg_, get0o, l_abs, c_ge, c_lt, c_gt, c_le, sl_l, sl_t, it_f, it_t, bi_abs, bi_len, List.set_cons_zero, List.set_cons_succ, Nat.reduceAdd, Nat.reduceLT, Option.map_some, szif (by decide : 1 ≤ 16777216), szif (by decide : 2 ≤ 16777216), szif (by decide : 3 ≤ 16777216), szif (by decide : 4 ≤ 16777216), szif (by decide : 5 ≤ 16777216), szif (by decide : 6 ≤ 16777216), szif (by decide : 7 ≤ 16777216), szif (by decide : 8 ≤ 16777216), szif (by decide : 9 ≤ 16777216), bnd, sq_l, sq_t, wp_n, wp_c, bi_tuple, l_tpl, l_tpt])
/-- a loop, then what follows it -/
theorem sat_fors {β : Type} {T : Tab} {cl : Nat → List MV → Store → Res MV} {g : G} {it : E} {b ss : List S} {ρ : Env} {M M1 : Store} {v : MV} {P : Out × Env → Store → Prop} (φ : β → MV) (bs : List β) (I : List β → Env → Store → Prop) (hi : evF T cl it ρ M = .ok v M1) (hx : itemsOf v = some (bs.map φ)) (h0 : I bs ρ M1)
    (hs : ∀ x xs ρ M, I (x :: xs) ρ M → ∃ ρ1, bindG g (φ x) ρ = some ρ1 ∧ (evSs T cl b ρ1 M).Sat fun r M' => match r.1 with | .nx => I xs r.2 M' | .ct => I xs r.2 M' | .brk => (evSs T cl ss r.2 M').Sat P | .ret v => P (.ret v, r.2) M')
    (he : ∀ ρ M, I [] ρ M → (evSs T cl ss ρ M).Sat P) : (evSs T cl (.forr g it b :: ss) ρ M).Sat P := by
  refine sat_cons (R := fun r M' => match r.1 with | .nx => (evSs T cl ss r.2 M').Sat P | .ret v => P (.ret v, r.2) M' | _ => False) ?_ ?_
  · refine sat_fort (v := v) (M1 := M1) φ bs I hi hx h0 ?_ he
    intro x xs ρ M h
    obtain ⟨ρ1, e, h1⟩ := hs x xs ρ M h
    refine ⟨ρ1, e, sat_imp h1 ?_⟩
    rintro ⟨o, ρ2⟩ M2 p
    cases o <;> exact p
  · rintro ⟨o, ρ2⟩ M2 p
    cases o with
    | nx => exact p
    | ret v => exact p
    | brk => exact p.elim
    | ct => exact p.elim
/-- a statement in front by what it reaches -/
theorem sat_st {T : Tab} {cl : Nat → List MV → Store → Res MV} {s : S} {ss : List S} {ρ : Env} {M : Store} {P : Out × Env → Store → Prop} (h : (evS T cl s ρ M).Sat fun r M' => match r.1 with | .nx => (evSs T cl ss r.2 M').Sat P | _ => P r M') : (evSs T cl (s :: ss) ρ M).Sat P :=
  sat_cons h fun r M' p => p
/-- what a call makes, in the store -/
theorem add_put (M : Store) (a b : MObj) : ∀ n, ((M.add a).put M.nx b).ob n = if n = M.nx then some b else M.ob n := fun n => by
  show (if n = M.nx then some b else if n = M.nx then some a else M.ob n) = _
  by_cases h : n = M.nx
  · rw [if_pos h, if_pos h]
  · rw [if_neg h, if_neg h, if_neg h]
theorem Dk.made {M : Store} {b : Nat} (h : Dk M b) (hx : 2 ≤ M.nx) (o o' : MObj) : Dk ((M.add o).put M.nx o') b := by
  refine h.same ?_ ?_
  · rw [add_put, if_neg (by omega)]
  · rw [add_put, if_neg (by omega)]
namespace TK
def fdTold : Fd := ⟨1, 1, [.ret (.mkk 3 1 (.cons (.idx (.var 0) (.con (.int 0))) (.nil)) [none, none, none] (.cons (.idx (.var 0) (.con (.int 1))) (.cons (.idx (.var 0) (.con (.int 2))) (.cons (.idx (.var 0) (.con (.int 3))) (.nil)))))]⟩
/-- a told task stands there -/
structure Tk (M : Store) (r : Nat) (D : Dat) : Prop where
  ob : M.ob r = some (.ins 3 (Fs D))
  r2 : 2 ≤ r
theorem Tk.off {M M' : Store} {r : Nat} {D : Dat} (h : Tk M r D) (o : Off M M') : Tk M' r D := ⟨(o.ob r (by have := h.r2; omega) (by have := h.r2; omega)).trans h.ob, h.r2⟩
theorem Tk.made {M : Store} {r : Nat} {D : Dat} (h : Tk M r D) (hr : r < M.nx) (o o' : MObj) : Tk ((M.add o).put M.nx o') r D := ⟨by rw [add_put, if_neg (by omega)]; exact h.ob, h.r2⟩
theorem dr_dat (D : Dat) (M : Store) : (datM D).dr M = .tup [rowsM D.rows, mapsM D.maps, endsM D.ends, headsM D.heads] := rfl
theorem fr_dat (D : Dat) : (datM D).frz = some (datM D) := rfl
theorem atM_3 {α : Type} (xs : List α) : atM xs 3 = xs[3]? := atM_nat xs 3
section
variable {T : Tab} {d : Nat} {M : Store}
theorem told_ok (t : TbI T) (h76 : T.fn 76 = some fdTold) (hi : T.ini 3 = some 58) {D : Dat} (hD : D.W) : evC T (d + 7) 76 [datM D] M = .ok (.ref M.nx) ((M.add (.ins 3 [])).put M.nx (.ins 3 (Fs D))) := by
  have e1 := init_ok (d := d) (M := M.add (.ins 3 [])) t hD (n := M.nx) (if_pos rfl)
  have fl : ∀ a b c : MV, fillM [none, none, none] [a, b, c] = [a, b, c] := fun _ _ _ => rfl
  refine sat_eq (sat_call [some (.v (datM D))] h76 rfl rfl ?_)
  simp_arith [fdTold, dr_dat, atM_3, fr_rows, fr_maps, fr_ends, fr_heads, hi, fl, e1, List.filter_cons, List.filter_nil, Option.isNone_none, Option.isNone_some, eq_self, and_self]
  exact sat_ok ⟨rfl, rfl⟩
end
end TK
end Q

/-! ExN: k01: forms. -/
namespace Q
open PySem
local macro_rules
  | `(tactic| simp_arith [$as,*]) => `(tactic| simp only [$as,*, evSs, evS, evT, evF, evE, evFs, evEs, evO, rb, ro, get0, getS, dr_int, dr_lst, dr_bl, dr_tup, dr_non, dr_str, t_bl, fr_int, fr_bl, fr_str, fr_non, fr_tup, fr_nw, fr_fz, fr_ro, fr_ref, ou_int, ou_bl, ou_tup, ou_nw, ou_fz, ou_bw, ou_ref, ou_non, ou_str, ix_l, ix_t, b_add, b_sub, l_len, l_lent, atM_0, atM_1, atM_2, List.getElem?_cons_zero, List.getElem?_cons_succ, List.length_cons, List.length_nil, List.replicate, List.cons_append, List.nil_append, if_true, Bool.false_eq_true, map1, map2, if_false, szif (Nat.zero_le _), nx_s, so_l, so_d, sv_, bg_, get0o, l_abs, c_ge, c_lt, c_gt, c_le, sl_l, sl_t, it_f, it_t, bi_abs, bi_len, List.set_cons_zero, List.set_cons_succ, Nat.reduceAdd, Nat.reduceLT, Option.map_some, szif (by decide : 1 ≤ 16777216), szif (by decide : 2 ≤ 16777216), szif (by decide : 3 ≤ 16777216), szif (by decide : 4 ≤ 16777216), szif (by decide : 5 ≤ 16777216), szif (by decide : 6 ≤ 16777216), szif (by decide : 7 ≤ 16777216), szif (by decide : 8 ≤ 16777216), szif (by decide : 9 ≤ 16777216), bnd, sq_l, sq_t, wp_n, wp_c, bi_tuple, l_tpl, l_tpt])
namespace TK
section
variable {T : Tab} {d b : Nat} {M : Store}
end
end TK
end Q

/-! FaA: told tasks: rows, names, turnings; what is come to by turnings; labels. -/
namespace Q
open PySem
local macro_rules
  | `(tactic| simp_arith [$as,*]) => `(tactic| simp only [$as,*, evSs, evS, evT, evF, evE, evFs, evEs, evO, rb, ro, get0, getS, dr_int, dr_lst, dr_bl, dr_tup, dr_non, dr_str, t_bl, fr_int, fr_bl, fr_str, fr_non, fr_tup, fr_nw, fr_fz, fr_ro, fr_ref, ou_int, ou_bl, ou_tup, ou_nw, ou_fz, ou_bw, ou_ref, ou_non, ou_str, ix_l, ix_t, b_add, b_sub, l_len, l_lent, atM_0, atM_1, atM_2, List.getElem?_cons_zero, List.getElem?_cons_succ, List.length_cons, List.length_nil, List.replicate, List.cons_append, List.nil_append, if_true, Bool.false_eq_true, map1, map2, if_false, szif (Nat.zero_le _), nx_s, so_l, so_d, sv_, bg_, get0o, l_abs, c_ge, c_lt, c_gt, c_le, sl_l, sl_t, it_f, it_t, bi_abs, bi_len, List.set_cons_zero, List.set_cons_succ, Nat.reduceAdd, Nat.reduceLT, Option.map_some, szif (by decide : 1 ≤ 16777216), szif (by decide : 2 ≤ 16777216), szif (by decide : 3 ≤ 16777216), szif (by decide : 4 ≤ 16777216), szif (by decide : 5 ≤ 16777216), szif (by decide : 6 ≤ 16777216), szif (by decide : 7 ≤ 16777216), szif (by decide : 8 ≤ 16777216), szif (by decide : 9 ≤ 16777216), bnd, sq_l, sq_t, wp_n, wp_c, bi_tuple, l_tpl, l_tpt])
theorem sat_whls {T : Tab} {cl : Nat → List MV → Store → Res MV} {c : E} {b ss : List S} {ρ : Env} {M : Store} {P : Out × Env → Store → Prop} (I : Nat → Env → Store → Prop) {m : Nat} (hm : m < T.W) (h0 : I m ρ M)
    (hs : ∀ m ρ M, I m ρ M → ∃ t, evT T cl c ρ M = .ok t M ∧ (t = true → 0 < m ∧ (evSs T cl b ρ M).Sat fun r M2 => match r.1 with | .nx => I (m - 1) r.2 M2 | .ct => I (m - 1) r.2 M2 | .brk => (evSs T cl ss r.2 M2).Sat P | .ret v => P (.ret v, r.2) M2) ∧ (t = false → (evSs T cl ss ρ M).Sat P)) : (evSs T cl (.whl c b :: ss) ρ M).Sat P := by
  refine sat_cons (R := fun r M' => match r.1 with | .nx => (evSs T cl ss r.2 M').Sat P | .ret v => P (.ret v, r.2) M' | _ => False) ?_ ?_
  · simp only [evS]
    refine sat_whl I hm h0 ?_
    intro m ρ M h
    obtain ⟨t, e, ht, hf⟩ := hs m ρ M h
    rw [e]
    refine sat_ok ?_
    cases t with
    | false => rw [if_neg Bool.false_ne_true]; exact hf rfl
    | true =>
      rw [if_pos rfl]
      refine ⟨(ht rfl).1, sat_imp (ht rfl).2 ?_⟩
      rintro ⟨o, ρ2⟩ M2 p
      cases o <;> exact p
  · rintro ⟨o, ρ2⟩ M2 p
    cases o with
    | nx => exact p
    | ret v => exact p
    | brk => exact p.elim
    | ct => exact p.elim
theorem nodup_len : ∀ {n : Nat} {zs : List Nat}, zs.Nodup → (∀ z ∈ zs, z < n) → zs.length ≤ n
  | 0, zs, _, h => by
    cases zs with
    | nil => exact Nat.le_refl 0
    | cons z zs => exact absurd (h z (List.mem_cons_self ..)) (Nat.not_lt_zero z)
  | n + 1, zs, hd, h => by
    have h1 := nodup_len (n := n) (hd.erase n) fun z hz => by
      have := (hd.mem_erase_iff).mp hz
      have := h z this.2
      omega
    by_cases hm : n ∈ zs
    · rw [List.length_erase_of_mem hm] at h1; omega
    · rw [List.erase_of_not_mem hm] at h1; omega
def stM (k : Nat) : MV := .tup [.int (k : Int)]
theorem fr_st (k : Nat) : (stM k).frz = some (stM k) := rfl
theorem dr_st (k : Nat) (M : Store) : (stM k).dr M = .tup [.int (k : Int)] := rfl
theorem any_nat (zs : List Nat) (k : Nat) : (zs.any fun y => y == k) = decide (k ∈ zs) := by
  rw [Bool.eq_iff_iff, List.any_eq_true, decide_eq_true_eq]
  constructor
  · rintro ⟨x, hx, e⟩; rw [beq_iff_eq] at e; exact e ▸ hx
  · intro h; exact ⟨k, h, beq_self_eq_true k⟩
theorem eqv_st (a b : Nat) : (stM a).eqv (stM b) = (a == b) := by
  show ((a : Int) == (b : Int) && true) = _
  rw [eq_natI, Bool.and_true]
theorem nin_st (l : Kd) (k : Nat) (zs : List Nat) : cmpM .nin (stM k) (.lst l (zs.map stM)) = some (!decide (k ∈ zs)) := by
  have e : cmpM .nin (stM k) (.lst l (zs.map stM)) = if (stM k).shp 60 && (MV.tup (zs.map stM)).shp 60 then some (!(zs.map stM).any fun y => y.eqv (stM k)) else none := rfl
  have e2 : (MV.tup (zs.map stM)).shp 60 = true := by
    show (zs.map stM).all (MV.shp 59) = true
    rw [List.all_eq_true]; intro x hx; obtain ⟨i, _, rfl⟩ := List.mem_map.mp hx; rfl
  rw [e, e2, List.any_map, ← any_nat]
  show some (!zs.any fun y => (stM y).eqv (stM k)) = _
  congr 2
  exact congrArg (List.any zs) (funext fun y => eqv_st y k)
namespace TK
def fdRowOf : Fd := ⟨2, 2, [.ret (.idx (.fld (.var 0) 14) (.idx (.var 1) (.con (.int 0))))]⟩
theorem ou_row (r : Row) : (rowM r).out = rowM r := rfl
theorem fr_row (r : Row) : (rowM r).frz = some (rowM r) := rfl
theorem dr_row (r : Row) (M : Store) : (rowM r).dr M = .tup [nextsM r.nexts, .bl r.done, .int r.name, .int r.bound, .bl r.cut] := rfl
theorem g14 (D : Dat) : getF (Fs D) 14 = some (rowsM D.rows) := rfl
theorem at_row {rs : List Row} {k : Nat} {row : Row} (h : rs[k]? = some row) : atM (rs.map rowM) (k : Int) = some (rowM row) := by rw [atM_map, h]; rfl
/-- come to by turnings -/
inductive Rch (ms : List (List Nat)) (k : Nat) : Nat → Prop
  | refl : Rch ms k k
  | step {y z : Nat} {m : List Nat} : Rch ms k y → m ∈ ms → m[y]? = some z → Rch ms k z
/-- the least name of all that are come to -/
def IsTurn (D : Dat) (k : Nat) (x : Int) : Prop := (∃ z row, Rch D.maps k z ∧ D.rows[z]? = some row ∧ row.name = x) ∧ ∀ z row, Rch D.maps k z → D.rows[z]? = some row → x ≤ row.name
theorem IsTurn.un {D : Dat} {k : Nat} {x y : Int} (h : IsTurn D k x) (g : IsTurn D k y) : x = y := by
  obtain ⟨⟨z, r, a, b, rfl⟩, c⟩ := h
  obtain ⟨⟨z', r', a', b', rfl⟩, c'⟩ := g
  have := c _ _ a' b'
  have := c' _ _ a b
  omega
structure TbD (T : Tab) : Prop where
  h59 : T.fn 59 = some fdRowOf
  m18 : T.mt 3 18 = some 59
  c14 : T.cf 3 14 = true
section
variable {T : Tab} {d : Nat} {M : Store} {r : Nat} {D : Dat}
theorem row_ok (t : TbD T) (hk : Tk M r D) {k : Nat} {row : Row} (h : D.rows[k]? = some row) : evC T (d + 1) 59 [.ref r, stM k] M = .ok (rowM row) M := by
  refine sat_eq (sat_call [some (.v (.ref r)), some (.v (stM k))] t.h59 rfl rfl ?_)
  simp_arith [fdRowOf, ins_r hk.ob, t.c14, g14, dr_rows, dr_st, at_row h, ou_row]
  exact sat_ok ⟨rfl, rfl⟩
theorem gn18 (D : Dat) : getF (Fs D) 18 = none := rfl
end
end TK
end Q

/-! FaB: labels, by the program and by the law. -/
namespace Q
open PySem
local macro_rules
  | `(tactic| simp_arith [$as,*]) => `(tactic| simp only [$as,*, evSs, evS, evT, evF, evE, evFs, evEs, evO, rb, ro, get0, getS, dr_int, dr_lst, dr_bl, dr_tup, dr_non, dr_str, t_bl, fr_int, fr_bl, fr_str, fr_non, fr_tup, fr_nw, fr_fz, fr_ro, fr_ref, ou_int, ou_bl, ou_tup, ou_nw, ou_fz, ou_bw, ou_ref, ou_non, ou_str, ix_l, ix_t, b_add, b_sub, l_len, l_lent, atM_0, atM_1, atM_2, List.getElem?_cons_zero, List.getElem?_cons_succ, List.length_cons, List.length_nil, List.replicate, List.cons_append, List.nil_append, if_true, Bool.false_eq_true, map1, map2, if_false, szif (Nat.zero_le _), nx_s, so_l, so_d, sv_, bg_, get0o, l_abs, c_ge, c_lt, c_gt, c_le, sl_l, sl_t, it_f, it_t, bi_abs, bi_len, List.set_cons_zero, List.set_cons_succ, Nat.reduceAdd, Nat.reduceLT, Option.map_some, szif (by decide : 1 ≤ 16777216), szif (by decide : 2 ≤ 16777216), szif (by decide : 3 ≤ 16777216), szif (by decide : 4 ≤ 16777216), szif (by decide : 5 ≤ 16777216), szif (by decide : 6 ≤ 16777216), szif (by decide : 7 ≤ 16777216), szif (by decide : 8 ≤ 16777216), szif (by decide : 9 ≤ 16777216), bnd, sq_l, sq_t, wp_n, wp_c, bi_tuple, l_tpl, l_tpt])
inductive Wrd | s | n | t
def Wrd.str : Wrd → Str
  | .s => "standing" | .n => "name" | .t => "turn"
def Wrd.isS : Wrd → Bool
  | .s => true | _ => false
def Wrd.isN : Wrd → Bool
  | .n => true | _ => false
def Wrd.isT : Wrd → Bool
  | .t => true | _ => false
namespace TK
theorem row_at {D : Dat} {k : Nat} (hk : k < D.rows.length) : ∃ row, D.rows[k]? = some row ∧ row ∈ D.rows := ⟨_, List.getElem?_eq_getElem hk, List.getElem_mem hk⟩
section
variable {T : Tab} {d : Nat} {M : Store} {r : Nat} {D : Dat}
end
end TK
end Q

/-! FaC: k04, the law. -/
namespace Q
open PySem
local macro_rules
  | `(tactic| simp_arith [$as,*]) => `(tactic| simp only [$as,*, evSs, evS, evT, evF, evE, evFs, evEs, evO, rb, ro, get0, getS, dr_int, dr_lst, dr_bl, dr_tup, dr_non, dr_str, t_bl, fr_int, fr_bl, fr_str, fr_non, fr_tup, fr_nw, fr_fz, fr_ro, fr_ref, ou_int, ou_bl, ou_tup, ou_nw, ou_fz, ou_bw, ou_ref, ou_non, ou_str, ix_l, ix_t, b_add, b_sub, l_len, l_lent, atM_0, atM_1, atM_2, List.getElem?_cons_zero, List.getElem?_cons_succ, List.length_cons, List.length_nil, List.replicate, List.cons_append, List.nil_append, if_true, Bool.false_eq_true, map1, map2, if_false, szif (Nat.zero_le _), nx_s, so_l, so_d, sv_, bg_, get0o, l_abs, c_ge, c_lt, c_gt, c_le, sl_l, sl_t, it_f, it_t, bi_abs, bi_len, List.set_cons_zero, List.set_cons_succ, Nat.reduceAdd, Nat.reduceLT, Option.map_some, szif (by decide : 1 ≤ 16777216), szif (by decide : 2 ≤ 16777216), szif (by decide : 3 ≤ 16777216), szif (by decide : 4 ≤ 16777216), szif (by decide : 5 ≤ 16777216), szif (by decide : 6 ≤ 16777216), szif (by decide : 7 ≤ 16777216), szif (by decide : 8 ≤ 16777216), szif (by decide : 9 ≤ 16777216), bnd, sq_l, sq_t, wp_n, wp_c, bi_tuple, l_tpl, l_tpt])
/-- a name's value, some at least -/
theorem sat_set {T : Tab} {cl : Nat → List MV → Store → Res MV} {s : S} {ss : List S} {ρ : Env} {M : Store} {P : Out × Env → Store → Prop} (R : Env → Store → Prop) (h : (evS T cl s ρ M).Sat fun r M' => r.1 = .nx ∧ R r.2 M') (k : ∀ ρ1 M1, R ρ1 M1 → (evSs T cl ss ρ1 M1).Sat P) : (evSs T cl (s :: ss) ρ M).Sat P := by
  refine sat_cons h ?_
  rintro ⟨o, ρ1⟩ M1 ⟨e, p⟩
  have e' : o = .nx := e
  subst e'
  exact k ρ1 M1 p
theorem mod_nat (i : Int) {n : Nat} {ni : Int} (e : ni = (n : Int)) (h : 0 < n) : ∃ k : Nat, i % ni = (k : Int) ∧ k < n := by
  have h0 := Int.emod_nonneg i (show ni ≠ 0 by omega)
  have h1 := Int.emod_lt_of_pos i (show 0 < ni by omega)
  exact ⟨(i % ni).toNat, (Int.toNat_of_nonneg h0).symm, by omega⟩
namespace TK
def MapOk (n : Nat) (m : List Nat) : Prop := m.length = n ∧ ∀ z ∈ m, z < n
section
variable {T : Tab} {d b : Nat} {M : Store}
end
end TK
end Q

/-! FbA: small tasks by the law's draws. -/
namespace Q
open PySem
local macro_rules
  | `(tactic| simp_arith [$as,*]) => `(tactic| simp only [$as,*, evSs, evS, evT, evF, evE, evFs, evEs, evO, rb, ro, get0, getS, dr_int, dr_lst, dr_bl, dr_tup, dr_non, dr_str, t_bl, fr_int, fr_bl, fr_str, fr_non, fr_tup, fr_nw, fr_fz, fr_ro, fr_ref, ou_int, ou_bl, ou_tup, ou_nw, ou_fz, ou_bw, ou_ref, ou_non, ou_str, ix_l, ix_t, b_add, b_sub, l_len, l_lent, atM_0, atM_1, atM_2, List.getElem?_cons_zero, List.getElem?_cons_succ, List.length_cons, List.length_nil, List.replicate, List.cons_append, List.nil_append, if_true, Bool.false_eq_true, map1, map2, if_false, szif (Nat.zero_le _), nx_s, so_l, so_d, sv_, bg_, get0o, l_abs, c_ge, c_lt, c_gt, c_le, sl_l, sl_t, it_f, it_t, bi_abs, bi_len, List.set_cons_zero, List.set_cons_succ, Nat.reduceAdd, Nat.reduceLT, Option.map_some, szif (by decide : 1 ≤ 16777216), szif (by decide : 2 ≤ 16777216), szif (by decide : 3 ≤ 16777216), szif (by decide : 4 ≤ 16777216), szif (by decide : 5 ≤ 16777216), szif (by decide : 6 ≤ 16777216), szif (by decide : 7 ≤ 16777216), szif (by decide : 8 ≤ 16777216), szif (by decide : 9 ≤ 16777216), bnd, sq_l, sq_t, wp_n, wp_c, bi_tuple, l_tpl, l_tpt])
theorem nat_mod (a b : Nat) : ((a : Int) % (b : Int)) = ((a % b : Nat) : Int) := (Int.natCast_emod a b).symm
theorem nat_div (a b : Nat) : ((a : Int) / (b : Int)) = ((a / b : Nat) : Int) := (Int.natCast_ediv a b).symm
theorem bi_listQ : Bi.list.it = false := rfl
theorem st_t (xs : List MV) : stpM (.tup xs) (.int (-1)) = some (.tup xs.reverse) := rfl
namespace TK
def fdSmall (fe : Nat) : Fd := ⟨2, 22, [.set 2 (.call 38 (.cons (.var 0) (.cons (.var 1) (.nil)))), .set 3 (.call 39 (.cons (.var 2) (.nil))), .set 4 (.call 24 (.cons (.var 0) (.nil))), .set 5 (.bi .len (.cons (.var 2) (.nil))), .set 6 (.bi .maxL (.cons (.bin .add (.lst (.cons (.con (.int 0)) (.nil))) (.lc (.var 7) [7] (.nm 7) (.var 3) (.cmp .notN (.var 7) (.con (.non))))) (.nil))), .own 8 (.lst (.nil)), .forr (.nm 9) (.bi .range1 (.cons (.bin .mul (.con (.int 2)) (.var 5)) (.nil))) [.asg (.tup [.nm 10, .nm 11]) (.idx (.var 2) (.bin .mod (.var 9) (.var 5))), .set 7 (.idx (.var 3) (.bin .mod (.var 9) (.var 5))), .set 12 (.call 24 (.cons (.var 0) (.nil))), .set 13 (.lc (.tup (.cons (.var 15) (.cons (.bin .add (.var 16) (.bin .mul (.var 5) (.bin .mod (.bin .fdiv (.var 12) (.idx (.lst (.cons (.con (.int 2)) (.cons (.con (.int 4)) (.cons (.con (.int 8)) (.cons (.con (.int 16)) (.nil)))))) (.var 14))) (.con (.int 2))))) (.nil)))) [14, 15, 16] (.tup [.nm 14, .tup [.nm 15, .nm 16]]) (.bi .enum (.cons (.var 11) (.nil))) (.con (.bl true))), .set 17 (.var 6), .iff (.cmp .notN (.var 7) (.con (.non))) [.set 17 (.bin .fdiv (.bin .mul (.var 7) (.bin .mod (.var 4) (.con (.int 3)))) (.con (.int 2)))] [], .set 18 (.bin .mod (.var 9) (.bin .mul (.var 5) (.bin .add (.con (.int 1)) (.bin .mod (.bin .fdiv (.var 4) (.con (.int 6))) (.con (.int 2)))))), .app 8 (.tup (.cons (.bi .tuple (.cons (.stp (.var 13) (.bin .sub (.con (.int 1)) (.bin .mul (.con (.int 2)) (.bin .fdiv (.var 9) (.var 5))))) (.nil))) (.cons (.var 10) (.cons (.var 18) (.cons (.var 17) (.cons (.andd (.cmp .eq (.bin .mod (.bin .fdiv (.var 4) (.con (.int 3))) (.con (.int 2))) (.con (.int 1))) (.cmp .isN (.var 7) (.con (.non)))) (.nil)))))))], .set 19 (.idx (.lst (.cons (.tup (.nil)) (.cons (.tup (.cons (.bi .tuple (.cons (.lc (.bin .mod (.bin .add (.var 9) (.var 5)) (.bin .mul (.con (.int 2)) (.var 5))) [9] (.nm 9) (.bi .range1 (.cons (.bin .mul (.con (.int 2)) (.var 5)) (.nil))) (.con (.bl true))) (.nil))) (.nil))) (.nil)))) (.bin .mod (.bin .fdiv (.var 4) (.con (.int 6))) (.con (.int 2)))), .iff (.cmp .eq (.bin .mod (.bin .fdiv (.var 4) (.con (.int 12))) (.con (.int 2))) (.con (.int 0))) [.ret (.tup (.cons (.bi .tuple (.cons (.var 8) (.nil))) (.cons (.var 19) (.cons (.con (.non)) (.cons (.con (.non)) (.nil))))))] [], .frz 8, .asg (.tup [.nm 20, .nm 21]) (.call fe (.cons (.var 8) (.nil))), .ret (.tup (.cons (.bi .tuple (.cons (.var 8) (.nil))) (.cons (.var 19) (.cons (.var 20) (.cons (.var 21) (.nil))))))]⟩
/-- data as the law draws it, small -/
structure Dat.Sm (D : Dat) (B : Int) : Prop where
  w : D.W
  l12 : D.rows.length ≤ 12
  n4 : ∀ r ∈ D.rows, r.nexts.length ≤ 4
  b : ∀ r ∈ D.rows, r.bound ≤ B
section
variable {T : Tab} {d b : Nat} {M : Store} {most : Int}
theorem small_ok {fs fe : Nat} (h41 : T.fn fs = some (fdSmall fe)) (h40 : T.fn fe = some fdEnds) (h38 : T.fn 38 = some fdClasses) (h39 : T.fn 39 = some fdRests) (hN : T.fn 24 = some fdNext) (hmost : 2 ≤ most ∧ most ≤ 6) (h : Dk M b) (hb : b < 600000) :
    (evC T (d + 3) fs [.ref 1, .int most] M).Sat fun v M' => ∃ D : Dat, v = datM D ∧ D.Ok ∧ D.rows.length ≤ 12 ∧ Dk M' (b + 60) ∧ Off M M' := by
  obtain ⟨_, M1, e1, cs, rfl, hcs, hD1, hO1⟩ := classes_ok (d := d) h38 hN hmost h (by omega)
  have hcl : 2 ≤ cs.length ∧ cs.length ≤ 6 := by have := hcs.l; omega
  have hc2 : ∀ c ∈ cs, ∀ p ∈ c.2, p.2 < cs.length := fun c hc p hp => ((hcs.c c hc).2 p hp).2.2
  have e2 := rests_ok (T := T) (d := d + 1) (M := M1) h39 (cs := cs) (by omega) hc2
  have hrl : (restsF cs).length = cs.length := restsF_len cs
  have hrb : RB 1296 (restsF cs) := restsF_B hcl.2 fun c hc => ⟨(hcs.c c hc).1, fun p hp => ⟨((hcs.c c hc).2 p hp).1, ((hcs.c c hc).2 p hp).2.1⟩⟩
  generalize restsF cs = rs at e2 hrl hrb
  obtain ⟨_, M3, e3, n, rfl, hn, hD3, hO3⟩ := next_ok (d := d + 1) hN hD1 (by omega)
  obtain ⟨m, hm⟩ : ∃ m, m = cs.length := ⟨_, rfl⟩
  rw [← hm] at hcl hrl
  obtain ⟨mi, emi⟩ : ∃ mi : Int, mi = (m : Int) := ⟨_, rfl⟩
  have hml : ((cs.map classM).length : Int) = mi := by rw [List.length_map, emi, hm]
  obtain ⟨g, hg⟩ : ∃ g : Int, g = (rs.filterMap id).foldl (fun a b => if b > a then b else a) 0 := ⟨_, rfl⟩
  have hfm : ∀ x ∈ rs.filterMap id, 0 ≤ x ∧ x ≤ 1296 := fun x hx => by
    obtain ⟨o, ho, e⟩ := List.mem_filterMap.mp hx
    exact hrb x (by rw [← show o = some x from e]; exact ho)
  have hg0 : 0 ≤ g := hg ▸ maxf_ge _ _
  have hg1 : g ≤ 1296 := hg ▸ maxf_le _ _ _ (by decide) fun x hx => (hfm x hx).2
  have hz : rs.length ≤ SZ := by rw [hrl]; show m ≤ 16777216; omega
  refine sat_call [some (.v (.ref 1)), some (.v (.int most)), none, none, none, none, none, none, none, none, none, none, none, none, none, none, none, none, none, none, none, none] h41 rfl rfl ?_
  simp only [fdSmall]
  refine sat_next (ρ1 := [some (.v (.ref 1)), some (.v (.int most)), some (.v (classesM cs)), none, none, none, none, none, none, none, none, none, none, none, none, none, none, none, none, none, none, none]) (M1 := M1) (by simp_arith [e1, fr_cs]) ?_
  refine sat_next (ρ1 := [some (.v (.ref 1)), some (.v (.int most)), some (.v (classesM cs)), some (.v (.lst .fz (rs.map optM))), none, none, none, none, none, none, none, none, none, none, none, none, none, none, none, none, none, none]) (M1 := M1) (by simp_arith [e2, fr_cs]) ?_
  refine sat_next (ρ1 := [some (.v (.ref 1)), some (.v (.int most)), some (.v (classesM cs)), some (.v (.lst .fz (rs.map optM))), some (.v (.int n)), none, none, none, none, none, none, none, none, none, none, none, none, none, none, none, none, none]) (M1 := M3) (by simp_arith [e3]) ?_
  refine sat_next (ρ1 := [some (.v (.ref 1)), some (.v (.int most)), some (.v (classesM cs)), some (.v (.lst .fz (rs.map optM))), some (.v (.int n)), some (.v (.int mi)), none, none, none, none, none, none, none, none, none, none, none, none, none, none, none, none]) (M1 := M3) (by simp_arith [dr_cs, hml]) ?_
  refine sat_next (ρ1 := [some (.v (.ref 1)), some (.v (.int most)), some (.v (classesM cs)), some (.v (.lst .fz (rs.map optM))), some (.v (.int n)), some (.v (.int mi)), some (.v (.int g)), none, none, none, none, none, none, none, none, none, none, none, none, none, none, none]) (M1 := M3) ?_ ?_
  · simp_arith [evSs]
    rw [lc_map (fun o => if o.isSome then some (optM o) else none) ?_ hz]
    · have e : (rs.filterMap fun o => if o.isSome then some (optM o) else none) = (rs.filterMap id).map MV.int := fm_opt rs
      have el : ([MV.int 0] : List MV).length + ((rs.filterMap id).map MV.int).length ≤ SZ := by
        rw [List.length_map]
        have := List.length_filterMap_le id rs
        show 1 + _ ≤ 16777216
        omega
      have ec : [MV.int 0] ++ (rs.filterMap id).map MV.int = (0 :: rs.filterMap id).map MV.int := rfl
      have em : maxI (0 :: rs.filterMap id) = some g := by rw [hg]; rfl
      simp_arith [e, b_addl (k := .nw) (l := .nw) el (by decide) (by decide), ec, l_maxlQ, bi_maxLQ, em]
    · intro o ho
      cases o with
      | none => simp_arith [optM, c_notNQ, MV.isNon, Bool.not_true, Option.isSome]
      | some x => simp_arith [optM, c_notNQ, MV.isNon, Bool.not_false, Option.isSome]
  refine sat_next (by simp_arith [evSs]; first | done | exact rfl) ?_
  obtain ⟨m2, hm2⟩ : ∃ m2 : Nat, m2 = 2 * m := ⟨_, rfl⟩
  obtain ⟨m2i, em2⟩ : ∃ m2i : Int, m2i = (m2 : Int) := ⟨_, rfl⟩
  have em2' : 2 * mi = m2i := by omega
  have hw4 : ∀ k : Nat, k < 4 → ∃ w : Int, atM [MV.int 2, .int 4, .int 8, .int 16] (k : Int) = some (.int w) ∧ 0 < w ∧ w < 100 := by
    intro k hk
    obtain rfl | rfl | rfl | rfl : k = 0 ∨ k = 1 ∨ k = 2 ∨ k = 3 := by omega
    · exact ⟨2, rfl, by decide, by decide⟩
    · exact ⟨4, rfl, by decide, by decide⟩
    · exact ⟨8, rfl, by decide, by decide⟩
    · exact ⟨16, rfl, by decide, by decide⟩
  refine sat_fors (v := .lst .fz (rangeL 0 m2i)) (M1 := M3) natM (List.range m2) (fun xs ρ M' => ∃ (rows : List Row) (y7 y9 y10 y11 y12 y13 y17 y18 : Option SV), ρ = [some (.v (.ref 1)), some (.v (.int most)), some (.v (classesM cs)), some (.v (.lst .fz (rs.map optM))), some (.v (.int n)), some (.v (.int mi)), some (.v (.int g)), y7, some (.ol (rows.map rowM)), y9, y10, y11, y12, y13, none, none, none, y17, y18, none, none, none] ∧ rows.length + xs.length = m2 ∧ (∀ x ∈ xs, x < m2) ∧ (∀ r ∈ rows, RowOk m2 r) ∧ Dk M' (b + 41 + rows.length) ∧ Off M M') (by simp_arith [b_mul 2 mi (by decide), em2', bi_r1, l_r1 m2i (by omega)]) (by rw [em2, rangeL_nat]; rfl) ?_ ?_ ?_
  · exact ⟨[], none, none, none, none, none, none, none, none, rfl, by rw [List.length_range]; simp, (fun x h => List.mem_range.mp h), (fun _ h => nomatch h), hD3, hO1.trans hO3⟩
  · rintro a xs ρ M' ⟨rows, y7, y9, y10, y11, y12, y13, y17, y18, rfl, hl, hx, hrows, hD, hO⟩
    rw [List.length_cons] at hl
    have ha := hx a (List.mem_cons_self ..)
    obtain ⟨ai, eai⟩ : ∃ ai : Int, ai = (a : Int) := ⟨_, rfl⟩
    have ham : a % m < m := Nat.mod_lt _ (by omega)
    obtain ⟨dn, pp, hcm⟩ : ∃ dn pp, cs[a % m]? = some (dn, pp) := ⟨_, _, List.getElem?_eq_getElem (by omega)⟩
    have hcc := hcs.c _ (List.mem_of_getElem? hcm)
    have eam : ai % mi = ((a % m : Nat) : Int) := by rw [eai, emi, nat_mod]
    have a1 : atM (cs.map classM) (ai % mi) = some (.tup [.bl dn, pairsM pp]) := by rw [eam, atM_map, hcm]; rfl
    obtain ⟨o, ho⟩ : ∃ o, rs[a % m]? = some o := ⟨_, List.getElem?_eq_getElem (by omega)⟩
    have hom : o ∈ rs := List.mem_of_getElem? ho
    have a2 : atM (rs.map optM) (ai % mi) = some (optM o) := by rw [eam, atM_map, ho]; rfl
    obtain ⟨_, M4, e4, bt, rfl, hbt, hD4, hO4⟩ := next_ok (d := d + 1) hN hD (by omega)
    have hmp : 0 < mi := by omega
    refine ⟨[some (.v (.ref 1)), some (.v (.int most)), some (.v (classesM cs)), some (.v (.lst .fz (rs.map optM))), some (.v (.int n)), some (.v (.int mi)), some (.v (.int g)), y7, some (.ol (rows.map rowM)), some (.v (.int ai)), y10, y11, y12, y13, none, none, none, y17, y18, none, none, none], by rw [eai]; rfl, ?_⟩
    refine sat_next (ρ1 := [some (.v (.ref 1)), some (.v (.int most)), some (.v (classesM cs)), some (.v (.lst .fz (rs.map optM))), some (.v (.int n)), some (.v (.int mi)), some (.v (.int g)), y7, some (.ol (rows.map rowM)), some (.v (.int ai)), some (.v (.bl dn)), some (.v (pairsM pp)), y12, y13, none, none, none, y17, y18, none, none, none]) (M1 := M') (by simp_arith [b_mod ai mi hmp, dr_cs, a1, bg_t, bindGs, bgs_n]) ?_
    refine sat_next (ρ1 := [some (.v (.ref 1)), some (.v (.int most)), some (.v (classesM cs)), some (.v (.lst .fz (rs.map optM))), some (.v (.int n)), some (.v (.int mi)), some (.v (.int g)), some (.v (optM o)), some (.ol (rows.map rowM)), some (.v (.int ai)), some (.v (.bl dn)), some (.v (pairsM pp)), y12, y13, none, none, none, y17, y18, none, none, none]) (M1 := M') (by simp_arith [b_mod ai mi hmp, a2, fr_opt]) ?_
    refine sat_next (ρ1 := [some (.v (.ref 1)), some (.v (.int most)), some (.v (classesM cs)), some (.v (.lst .fz (rs.map optM))), some (.v (.int n)), some (.v (.int mi)), some (.v (.int g)), some (.v (optM o)), some (.ol (rows.map rowM)), some (.v (.int ai)), some (.v (.bl dn)), some (.v (pairsM pp)), some (.v (.int bt)), y13, none, none, none, y17, y18, none, none, none]) (M1 := M4) (by simp_arith [e4]) ?_
    refine sat_set (fun ρ1 M5 => M5 = M4 ∧ ∃ ps : List (Int × Nat), ρ1 = [some (.v (.ref 1)), some (.v (.int most)), some (.v (classesM cs)), some (.v (.lst .fz (rs.map optM))), some (.v (.int n)), some (.v (.int mi)), some (.v (.int g)), some (.v (optM o)), some (.ol (rows.map rowM)), some (.v (.int ai)), some (.v (.bl dn)), some (.v (pairsM pp)), some (.v (.int bt)), some (.v (pairsM ps)), none, none, none, y17, y18, none, none, none] ∧ ps.length ≤ 4 ∧ ∀ p ∈ ps, 0 ≤ p.1 ∧ p.1 ≤ 9 ∧ p.2 < m2) ?_ ?_
    · simp_arith [bi_enum, pairsM, l_enK, en_map]
      rw [lc_map (φ := enM pairM) (fun p => some (pairM (p.1.1, p.1.2 + m * (bt / (2 ^ (p.2 + 1) : Nat) % 2).toNat))) ?_ (by rw [List.length_zipIdx]; exact Nat.le_trans hcc.1 (by decide))]
      · have e5 : (pp.zipIdx.map fun p => pairM (p.1.1, p.1.2 + m * (bt / (2 ^ (p.2 + 1) : Nat) % 2).toNat)) = (pp.zipIdx.map fun p => (p.1.1, p.1.2 + m * (bt / (2 ^ (p.2 + 1) : Nat) % 2).toNat)).map pairM := by rw [List.map_map]; rfl
        simp_arith [K13.fm_some, e5]
        refine sat_ok ⟨rfl, rfl, pp.zipIdx.map fun p => (p.1.1, p.1.2 + m * (bt / (2 ^ (p.2 + 1) : Nat) % 2).toNat), ?_, ?_, ?_⟩
        · rfl
        · rw [List.length_map, List.length_zipIdx]; exact hcc.1
        · intro p hp
          obtain ⟨q, hq, rfl⟩ := List.mem_map.mp hp
          have h1 := hcc.2 q.1 (List.mem_of_getElem? (zip_mem hq))
          have h2 := Int.emod_nonneg (bt / ((2 ^ (q.2 + 1) : Nat) : Int)) (show (2 : Int) ≠ 0 by decide)
          have h3 := Int.emod_lt_of_pos (bt / ((2 ^ (q.2 + 1) : Nat) : Int)) (show (0 : Int) < 2 by decide)
          refine ⟨h1.1, h1.2.1, ?_⟩
          show q.1.2 + m * (bt / ((2 ^ (q.2 + 1) : Nat) : Int) % 2).toNat < m2
          have h4 : m * (bt / ((2 ^ (q.2 + 1) : Nat) : Int) % 2).toNat ≤ m * 1 := Nat.mul_le_mul_left m (by omega)
          have := h1.2.2
          omega
      · rintro ⟨⟨c, j⟩, k⟩ hk
        have hk4 : k < 4 := by have := zip_lt hk; have := hcc.1; simp at *; omega
        obtain ⟨w, hw, hw0, hw1⟩ := hw4 k hk4
        have ew : w = ((2 ^ (k + 1) : Nat) : Int) := by
          obtain rfl | rfl | rfl | rfl : k = 0 ∨ k = 1 ∨ k = 2 ∨ k = 3 := by omega
          all_goals (cases hw; rfl)
        have h2 := Int.emod_nonneg (bt / w) (show (2 : Int) ≠ 0 by decide)
        have e5 : (j : Int) + mi * (bt / w % 2) = ((j + m * (bt / ((2 ^ (k + 1) : Nat) : Int) % 2).toNat : Nat) : Int) := by
          rw [← ew, emi, Int.natCast_add, Int.natCast_mul, Int.toNat_of_nonneg h2]
        simp_arith [enM, pairM, bg_t, bindGs, bgs_n, hw, b_div bt w ⟨hw0, by omega⟩, b_mod (bt / w) 2 (by decide), b_mul mi (bt / w % 2) (sm_of (by omega)), e5]
    rintro _ M5 ⟨rfl, ps, rfl, hps4, hps⟩
    refine sat_next (ρ1 := [some (.v (.ref 1)), some (.v (.int most)), some (.v (classesM cs)), some (.v (.lst .fz (rs.map optM))), some (.v (.int n)), some (.v (.int mi)), some (.v (.int g)), some (.v (optM o)), some (.ol (rows.map rowM)), some (.v (.int ai)), some (.v (.bl dn)), some (.v (pairsM pp)), some (.v (.int bt)), some (.v (pairsM ps)), none, none, none, some (.v (.int g)), y18, none, none, none]) (M1 := M5) (by simp_arith [evSs]) ?_
    refine sat_set (fun ρ1 M6 => M6 = M5 ∧ ∃ bd : Int, ρ1 = [some (.v (.ref 1)), some (.v (.int most)), some (.v (classesM cs)), some (.v (.lst .fz (rs.map optM))), some (.v (.int n)), some (.v (.int mi)), some (.v (.int g)), some (.v (optM o)), some (.ol (rows.map rowM)), some (.v (.int ai)), some (.v (.bl dn)), some (.v (pairsM pp)), some (.v (.int bt)), some (.v (pairsM ps)), none, none, none, some (.v (.int bd)), y18, none, none, none] ∧ 0 ≤ bd ∧ bd ≤ 2000) ?_ ?_
    · cases o with
      | none =>
        simp_arith [optM, c_notNQ, MV.isNon, Bool.not_true]
        exact sat_ok ⟨rfl, rfl, g, rfl, hg0, by omega⟩
      | some x =>
        have hxr := hrb x hom
        have h2 := Int.emod_nonneg n (show (3 : Int) ≠ 0 by decide)
        have h3 := Int.emod_lt_of_pos n (show (0 : Int) < 3 by decide)
        simp_arith [optM, c_notNQ, MV.isNon, Bool.not_false, b_mod n 3 (by decide), b_mul x (n % 3) (sm_of (by omega)), b_div (x * (n % 3)) 2 (by decide)]
        have h4 : 0 ≤ x * (n % 3) := Int.mul_nonneg hxr.1 h2
        have h5 : x * (n % 3) ≤ x * 2 := Int.mul_le_mul_of_nonneg_left (by omega) hxr.1
        exact sat_ok ⟨rfl, rfl, x * (n % 3) / 2, rfl, by omega, by omega⟩
    rintro _ M6 ⟨rfl, bd, rfl, hbd⟩
    obtain ⟨q6, hq6⟩ : ∃ q6 : Int, q6 = mi * (1 + n / 6 % 2) := ⟨_, rfl⟩
    have hq6p : 0 < q6 ∧ q6 ≤ 12 := by
      have h2 := Int.emod_nonneg (n / 6) (show (2 : Int) ≠ 0 by decide)
      have h3 := Int.emod_lt_of_pos (n / 6) (show (0 : Int) < 2 by decide)
      have h4 : mi * 1 ≤ mi * (1 + n / 6 % 2) := Int.mul_le_mul_of_nonneg_left (by omega) (by omega)
      have h5 : mi * (1 + n / 6 % 2) ≤ mi * 2 := Int.mul_le_mul_of_nonneg_left (by omega) (by omega)
      omega
    have hnm0 := Int.emod_nonneg ai (show q6 ≠ 0 by omega)
    have hnm1 := Int.emod_lt_of_pos ai hq6p.1
    refine sat_next (ρ1 := [some (.v (.ref 1)), some (.v (.int most)), some (.v (classesM cs)), some (.v (.lst .fz (rs.map optM))), some (.v (.int n)), some (.v (.int mi)), some (.v (.int g)), some (.v (optM o)), some (.ol (rows.map rowM)), some (.v (.int ai)), some (.v (.bl dn)), some (.v (pairsM pp)), some (.v (.int bt)), some (.v (pairsM ps)), none, none, none, some (.v (.int bd)), some (.v (.int (ai % q6))), none, none, none]) (M1 := M6) (by simp_arith [b_div n 6 (by decide), b_mod (n / 6) 2 (by decide), b_mul mi (1 + n / 6 % 2) (sm_of (by omega)), ← hq6, b_mod ai q6 hq6p.1]) ?_
    have hqd : ai / mi = 0 ∨ ai / mi = 1 := by
      rw [eai, emi, nat_div]
      have : a / m < 2 := Nat.div_lt_of_lt_mul (by omega)
      generalize a / m = q at this
      omega
    obtain ⟨ct, hct⟩ : ∃ ct : Bool, ((ofO (some (MV.bl (n / 3 % 2 == 1))) M6).bind fun x M1 => (ofO (truth (x.dr M1)) M1).bind fun t M2 => if t = true then Res.ok (MV.bl (optM o).isNon) M2 else Res.ok x M2) = Res.ok (.bl ct) M6 := by
      cases h1 : (n / 3 % 2 == 1) with
      | true => exact ⟨(optM o).isNon, rfl⟩
      | false => exact ⟨false, rfl⟩
    obtain ⟨qs, hst, hqs4, hqs⟩ : ∃ qs : List (Int × Nat), stpM (.lst .fz (ps.map pairM)) (.int (1 - 2 * (ai / mi))) = some (.lst .nw (qs.map pairM)) ∧ qs.length ≤ 4 ∧ ∀ p ∈ qs, 0 ≤ p.1 ∧ p.1 ≤ 9 ∧ p.2 < m2 := by
      rcases hqd with e | e
      · exact ⟨ps, by rw [e]; rfl, hps4, hps⟩
      · exact ⟨ps.reverse, by rw [e, List.map_reverse]; rfl, by rw [List.length_reverse]; exact hps4, fun p hp => hps p (List.mem_reverse.mp hp)⟩
    have hrz : (rows.map rowM).length < SZ := by rw [List.length_map]; show _ < 16777216; omega
    have hpr : rows.map rowM ++ [.tup [.tup (qs.map pairM), .bl dn, .int (ai % q6), .int bd, .bl ct]] = (rows ++ [Row.mk qs dn (ai % q6) bd ct]).map rowM := by rw [List.map_append]; rfl
    refine sat_next (ρ1 := [some (.v (.ref 1)), some (.v (.int most)), some (.v (classesM cs)), some (.v (.lst .fz (rs.map optM))), some (.v (.int n)), some (.v (.int mi)), some (.v (.int g)), some (.v (optM o)), some (.ol ((rows ++ [Row.mk qs dn (ai % q6) bd ct]).map rowM)), some (.v (.int ai)), some (.v (.bl dn)), some (.v (pairsM pp)), some (.v (.int bt)), some (.v (pairsM ps)), none, none, none, some (.v (.int bd)), some (.v (.int (ai % q6))), none, none, none]) (M1 := M6) ?_ ?_
    · have dp : ∀ M, (pairsM ps).dr M = .lst .fz (ps.map pairM) := fun _ => rfl
      have hct' := hct
      cases h1 : (n / 3 % 2 == 1) with
      | true =>
        rw [h1] at hct'
        have e : (optM o).isNon = ct := by injection hct' with e _; injection e
        simp_arith [b_div ai mi ⟨hmp, by omega⟩, b_mul 2 (ai / mi) (by decide), dp, hst, b_div n 3 (by decide), b_mod (n / 3) 2 (by decide), c_eqi, h1, c_isNQ, dr_opt, e, hrz, hpr]
      | false =>
        rw [h1] at hct'
        have e : false = ct := by injection hct' with e _; injection e
        subst e
        simp_arith [b_div ai mi ⟨hmp, by omega⟩, b_mul 2 (ai / mi) (by decide), dp, hst, b_div n 3 (by decide), b_mod (n / 3) 2 (by decide), c_eqi, h1, hrz, hpr]
    refine sat_nil ⟨_, _, _, _, _, _, _, _, _, rfl, by rw [List.length_append, List.length_singleton]; omega, fun x h => hx x (List.mem_cons_of_mem _ h), ?_, by rw [List.length_append, List.length_singleton]; exact hD4, hO.trans hO4⟩
    intro r hr
    rcases List.mem_append.mp hr with hr | hr
    · exact hrows r hr
    · rw [List.mem_singleton.mp hr]
      exact ⟨hqs4, hqs, ⟨hnm0, by show ai % q6 ≤ 11; omega⟩, hbd⟩
  · rintro ρ M' ⟨rows, y7, y9, y10, y11, y12, y13, y17, y18, rfl, hl, _, hrows, hD, hO⟩
    rw [List.length_nil, Nat.add_zero] at hl
    have hrg : rangeL 0 m2i = (List.range m2).map natM := by rw [em2, rangeL_nat]
    obtain ⟨wm, hwm⟩ : ∃ wm : List Nat, wm = (List.range m2).map fun a => (a + m) % m2 := ⟨_, rfl⟩
    have hwo : MapOk m2 wm := by
      rw [hwm]
      refine ⟨by rw [List.length_map, List.length_range], fun z hz => ?_⟩
      obtain ⟨y, _, rfl⟩ := List.mem_map.mp hz
      exact Nat.mod_lt _ (by omega)
    obtain ⟨ml, hml2, hml1, hmlo⟩ : ∃ ml : List (List Nat), atM [MV.tup [], .tup [.tup (wm.map natM)]] (n / 6 % 2) = some (mapsM ml) ∧ ml.length ≤ 1 ∧ ∀ q ∈ ml, MapOk m2 q := by
      have h2 := Int.emod_nonneg (n / 6) (show (2 : Int) ≠ 0 by decide)
      have h3 := Int.emod_lt_of_pos (n / 6) (show (0 : Int) < 2 by decide)
      generalize n / 6 % 2 = k at h2 h3
      obtain rfl | rfl : k = 0 ∨ k = 1 := by omega
      · exact ⟨[], rfl, Nat.zero_le _, fun _ h => nomatch h⟩
      · exact ⟨[wm], rfl, Nat.le_refl _, fun q hq => by rw [List.mem_singleton.mp hq]; exact hwo⟩
    have fml : (mapsM ml).frz = some (mapsM ml) := rfl
    refine sat_next (ρ1 := [some (.v (.ref 1)), some (.v (.int most)), some (.v (classesM cs)), some (.v (.lst .fz (rs.map optM))), some (.v (.int n)), some (.v (.int mi)), some (.v (.int g)), y7, some (.ol (rows.map rowM)), y9, y10, y11, y12, y13, none, none, none, y17, y18, some (.v (mapsM ml)), none, none]) (M1 := M') ?_ ?_
    · simp_arith [b_mul 2 mi (by decide), em2', bi_r1, l_r1 m2i (by omega), hrg]
      rw [lc_map (φ := natM) (fun a => some (natM ((a + m) % m2))) ?_ (by rw [List.length_range]; show m2 ≤ 16777216; omega)]
      · have e : (List.range m2).map (fun a => natM ((a + m) % m2)) = wm.map natM := by rw [hwm, List.map_map]; rfl
        simp_arith [K13.fm_some, e, b_div n 6 (by decide), b_mod (n / 6) 2 (by decide), hml2, fml]
      · intro a ha
        have e : ((a : Int) + mi) % m2i = (((a + m) % m2 : Nat) : Int) := by rw [emi, em2, ← Int.natCast_add, nat_mod]
        simp_arith [natM, em2', b_mul 2 mi (by decide), b_mod ((a : Int) + mi) m2i (by omega), e]
    rw [← hl] at hrows hmlo
    have hrl : 1 ≤ rows.length ∧ rows.length ≤ 24 := by omega
    cases hq : (n / 12 % 2 == 0) with
    | true =>
      simp_arith [b_div n 12 (by decide), b_mod (n / 12) 2 (by decide), c_eqi, hq, fml]
      exact sat_ok ⟨⟨rows, ml, none, none⟩, rfl, ⟨hrl, hrows, hml1, hmlo, .inl ⟨rfl, rfl⟩⟩, by show rows.length ≤ 12; omega, hD.mono (by omega), hO⟩
    | false =>
      refine sat_next (by simp_arith [b_div n 12 (by decide), b_mod (n / 12) 2 (by decide), c_eqi, hq]; first | done | exact rfl) ?_
      refine sat_next (by simp_arith [evSs]; first | done | exact rfl) ?_
      have e8 := ends_ok (T := T) (d := d + 1) (M := M') h40 (rs := rows) (by omega) fun r hr => (hrows r hr).l
      refine sat_next (ρ1 := [some (.v (.ref 1)), some (.v (.int most)), some (.v (classesM cs)), some (.v (.lst .fz (rs.map optM))), some (.v (.int n)), some (.v (.int mi)), some (.v (.int g)), y7, some (.v (.lst .fz (rows.map rowM))), y9, y10, y11, y12, y13, none, none, none, y17, y18, some (.v (mapsM ml)), some (.v (.tup ((stopsF rows).map natM))), some (.v (.tup ((frontsF rows).map nextsM)))]) (M1 := M') (by simp_arith [e8, bg_t, bindGs, bgs_n]) ?_
      simp_arith [fml]
      exact sat_ok ⟨⟨rows, ml, some (stopsF rows), some (frontsF rows)⟩, rfl, ⟨hrl, hrows, hml1, hmlo, .inr ⟨rfl, rfl⟩⟩, by show rows.length ≤ 12; omega, hD.mono (by omega), hO⟩
end
end TK
end Q

/-! FbB: a task nudged, least costs, walks. -/
namespace Q
open PySem
local macro_rules
  | `(tactic| simp_arith [$as,*]) => `(tactic| simp only [$as,*, evSs, evS, evT, evF, evE, evFs, evEs, evO, rb, ro, get0, getS, dr_int, dr_lst, dr_bl, dr_tup, dr_non, dr_str, t_bl, fr_int, fr_bl, fr_str, fr_non, fr_tup, fr_nw, fr_fz, fr_ro, fr_ref, ou_int, ou_bl, ou_tup, ou_nw, ou_fz, ou_bw, ou_ref, ou_non, ou_str, ix_l, ix_t, b_add, b_sub, l_len, l_lent, atM_0, atM_1, atM_2, List.getElem?_cons_zero, List.getElem?_cons_succ, List.length_cons, List.length_nil, List.replicate, List.cons_append, List.nil_append, if_true, Bool.false_eq_true, map1, map2, if_false, szif (Nat.zero_le _), nx_s, so_l, so_d, sv_, bg_, get0o, l_abs, c_ge, c_lt, c_gt, c_le, sl_l, sl_t, it_f, it_t, bi_abs, bi_len, List.set_cons_zero, List.set_cons_succ, Nat.reduceAdd, Nat.reduceLT, Option.map_some, szif (by decide : 1 ≤ 16777216), szif (by decide : 2 ≤ 16777216), szif (by decide : 3 ≤ 16777216), szif (by decide : 4 ≤ 16777216), szif (by decide : 5 ≤ 16777216), szif (by decide : 6 ≤ 16777216), szif (by decide : 7 ≤ 16777216), szif (by decide : 8 ≤ 16777216), szif (by decide : 9 ≤ 16777216), bnd, sq_l, sq_t, wp_n, wp_c, bi_tuple, l_tpl, l_tpt])
theorem b_addT {xs ys : List MV} (h : xs.length + ys.length ≤ SZ) : binM .add (.tup xs) (.tup ys) = some (.tup (xs ++ ys)) := by
  simp only [binM]
  rw [if_pos h]
theorem cutd' {α : Type} (xs : List α) {k : Nat} {ki : Int} (e : ki = (k : Int)) : cutM xs (some ki) none = xs.drop k := by rw [e, cutd]
theorem cutt' {α : Type} (xs : List α) {k : Nat} {ki : Int} (e : ki = (k : Int)) : cutM xs none (some ki) = xs.take k := by rw [e, cutt]
theorem set_take {α : Type} {xs : List α} {k : Nat} (y : α) (h : k < xs.length) : xs.take k ++ [y] ++ xs.drop (k + 1) = xs.set k y := by
  rw [List.set_eq_take_append_cons_drop, if_pos h, List.append_assoc]; rfl
theorem in_natI (l : Kd) (k : Nat) (zs : List Nat) : cmpM .inn (.int (k : Int)) (.lst l (zs.map natM)) = some (decide (k ∈ zs)) := by
  have e : cmpM .inn (natM k) (.lst l (zs.map natM)) = if (natM k).shp 60 && (MV.tup (zs.map natM)).shp 60 then some ((zs.map natM).any fun y => y.eqv (natM k)) else none := rfl
  have e2 : (MV.tup (zs.map natM)).shp 60 = true := by
    show (zs.map natM).all (MV.shp 59) = true
    rw [List.all_eq_true]; intro x hx; obtain ⟨i, _, rfl⟩ := List.mem_map.mp hx; rfl
  rw [show MV.int (k : Int) = natM k from rfl, e, e2, List.any_map, ← any_nat]
  show some (zs.any fun y => (natM y).eqv (natM k)) = _
  congr 1
  exact congrArg (List.any zs) (funext fun y => eq_natI y k)
theorem eqvT_nil (xs : List MV) : MV.eqv (.tup xs) (.tup []) = xs.isEmpty := by
  cases xs with
  | nil => simp [MV.eqv, MV.py, MV.pyL, PyData.eqv, PyData.eqvAll]
  | cons x xs => simp [MV.eqv, MV.py, MV.pyL, PyData.eqv, PyData.eqvAll]
theorem eq_nilT {xs : List MV} (h : ∀ x ∈ xs, x.shp 59 = true) : cmpM .eq (.tup xs) (.tup []) = some xs.isEmpty := by
  have e : cmpM .eq (.tup xs) (.tup []) = if (MV.tup xs).shp 60 && (MV.tup []).shp 60 then some (MV.eqv (.tup xs) (.tup [])) else if lenNe (.tup xs) (.tup []) then some false else none := rfl
  have e2 : (MV.tup xs).shp 60 = true := by show xs.all (MV.shp 59) = true; rw [List.all_eq_true]; exact h
  rw [e, e2, eqvT_nil]
  rfl
namespace TK
theorem shp_pairs (ps : List (Int × Nat)) : ∀ x ∈ ps.map pairM, x.shp 59 = true := by
  intro x hx; obtain ⟨p, _, rfl⟩ := List.mem_map.mp hx; rfl
def fdNudged : Fd := ⟨2, 13, [.asg (.tup [.nm 2, .nm 3, .nm 4, .nm 5]) (.var 1), .set 6 (.call 24 (.cons (.var 0) (.nil))), .set 7 (.bin .mod (.bin .fdiv (.var 6) (.con (.int 8))) (.bi .len (.cons (.var 2) (.nil)))), .asg (.tup [.nm 8, .nm 9, .nm 10, .nm 11, .nm 12]) (.idx (.var 2) (.var 7)), .iff (.cmp .lt (.bin .mod (.var 6) (.con (.int 8))) (.con (.int 3))) [.set 11 (.bi .max2 (.cons (.con (.int 0)) (.cons (.bin .add (.var 11) (.idx (.lst (.cons (.con (.int 1)) (.cons (.neg (.con (.int 1))) (.cons (.con (.int 3)) (.nil))))) (.bin .mod (.var 6) (.con (.int 8))))) (.nil))))] [.iff (.cmp .eq (.bin .mod (.var 6) (.con (.int 8))) (.con (.int 3))) [.set 12 (.nt (.var 12))] [.iff (.cmp .eq (.bin .mod (.var 6) (.con (.int 8))) (.con (.int 4))) [.set 9 (.nt (.var 9))] [.iff (.cmp .eq (.bin .mod (.var 6) (.con (.int 8))) (.con (.int 5))) [.set 10 (.idx (.idx (.var 2) (.bin .mod (.bin .fdiv (.var 6) (.con (.int 512))) (.bi .len (.cons (.var 2) (.nil))))) (.con (.int 2)))] [.set 8 (.bin .add (.sl (.stp (.var 8) (.neg (.con (.int 1)))) (.noE) (.con (.int 3))) (.tup (.cons (.tup (.cons (.bin .mod (.bin .fdiv (.var 6) (.con (.int 512))) (.con (.int 3))) (.cons (.bin .mod (.bin .fdiv (.var 6) (.con (.int 2048))) (.bi .len (.cons (.var 2) (.nil)))) (.nil)))) (.nil))))]]]], .ret (.tup (.cons (.bin .add (.bin .add (.sl (.var 2) (.noE) (.var 7)) (.tup (.cons (.tup (.cons (.var 8) (.cons (.var 9) (.cons (.var 10) (.cons (.var 11) (.cons (.var 12) (.nil))))))) (.nil)))) (.sl (.var 2) (.bin .add (.var 7) (.con (.int 1))) (.noE))) (.cons (.var 3) (.cons (.var 4) (.cons (.var 5) (.nil))))))]⟩
theorem Dat.Ok.sm {D : Dat} (h : D.Ok) (h12 : D.rows.length ≤ 12) : D.Sm 2000 := ⟨h.w, h12, fun r hr => (h.r r hr).l, fun r hr => (h.r r hr).bd.2⟩
theorem Dat.W.set {D : Dat} (h : D.W) {k : Nat} {row : Row} (hr : RowW D.rows.length row) : ({ D with rows := D.rows.set k row } : Dat).W := by
  have hl : (D.rows.set k row).length = D.rows.length := List.length_set ..
  refine ⟨by show 1 ≤ (D.rows.set k row).length ∧ (D.rows.set k row).length ≤ 24; rw [hl]; exact h.l, ?_, h.ml, by show ∀ m ∈ D.maps, m.length = (D.rows.set k row).length ∧ ∀ z ∈ m, z < (D.rows.set k row).length; rw [hl]; exact h.m, h.eh, by show ∀ es, D.ends = some es → es.length ≤ 24 ∧ (∀ z ∈ es, z < (D.rows.set k row).length) ∧ _; rw [hl]; exact h.e, by show ∀ hs, D.heads = some hs → hs.length = (D.rows.set k row).length ∧ ∀ ps ∈ hs, ps.length ≤ 200 ∧ ∀ p ∈ ps, 0 ≤ p.1 ∧ p.1 ≤ 1000 ∧ p.2 < (D.rows.set k row).length; rw [hl]; exact h.h⟩
  intro r hr'
  show RowW (D.rows.set k row).length r
  rw [hl]
  rcases List.mem_or_eq_of_mem_set hr' with h' | rfl
  · exact h.r r h'
  · exact hr
theorem Dat.Sm.set {D : Dat} {B C : Int} (h : D.Sm B) (hBC : B ≤ C) {k : Nat} {row : Row} (hr : RowW D.rows.length row) (h4 : row.nexts.length ≤ 4) (hb : row.bound ≤ C) : ({ D with rows := D.rows.set k row } : Dat).Sm C := by
  refine ⟨h.w.set hr, by show (D.rows.set k row).length ≤ 12; rw [List.length_set]; exact h.l12, ?_, ?_⟩
  · intro r hr'
    rcases List.mem_or_eq_of_mem_set hr' with h' | rfl
    · exact h.n4 r h'
    · exact h4
  · intro r hr'
    rcases List.mem_or_eq_of_mem_set hr' with h' | rfl
    · exact Int.le_trans (h.b r h') hBC
    · exact hb
section
variable {T : Tab} {d b : Nat} {M : Store}
theorem nudged_ok (h165 : T.fn 165 = some fdNudged) (hN : T.fn 24 = some fdNext) {D : Dat} {B : Int} (hD : D.Sm B) (hB : B ≤ 90000) (h : Dk M b) (hb : b < 900000) :
    (evC T (d + 2) 165 [.ref 1, datM D] M).Sat fun v M' => ∃ (k : Nat) (row : Row), v = datM { D with rows := D.rows.set k row } ∧ ({ D with rows := D.rows.set k row } : Dat).Sm (B + 3) ∧ Dk M' (b + 1) ∧ Off M M' := by
  obtain ⟨_, M1, e1, n, rfl, hn, hD1, hO1⟩ := next_ok (d := d) hN h (by omega)
  have hl := hD.w.l
  obtain ⟨ni, eni⟩ : ∃ ni : Int, ni = (D.rows.length : Int) := ⟨_, rfl⟩
  have hll : ((D.rows.map rowM).length : Int) = ni := by rw [List.length_map, eni]
  obtain ⟨k, ek, hk⟩ := mod_nat (n / 8) eni (by omega)
  obtain ⟨ki, eki⟩ : ∃ ki : Int, ki = (k : Int) := ⟨_, rfl⟩
  rw [← eki] at ek
  obtain ⟨row, hrow, hrm⟩ := row_at hk
  have hrw := hD.w.r row hrm
  have a1 : atM (D.rows.map rowM) ki = some (rowM row) := by rw [eki]; exact at_row hrow
  obtain ⟨q, hq⟩ : ∃ q : Int, q = n % 8 := ⟨_, rfl⟩
  have hq0 : 0 ≤ q ∧ q < 8 := by omega
  refine sat_call [some (.v (.ref 1)), some (.v (datM D)), none, none, none, none, none, none, none, none, none, none, none] h165 rfl rfl ?_
  simp only [fdNudged]
  refine sat_next (ρ1 := [some (.v (.ref 1)), some (.v (datM D)), some (.v (rowsM D.rows)), some (.v (mapsM D.maps)), some (.v (endsM D.ends)), some (.v (headsM D.heads)), none, none, none, none, none, none, none]) (M1 := M) (by simp_arith [fr_dat]; rfl) ?_
  refine sat_next (ρ1 := [some (.v (.ref 1)), some (.v (datM D)), some (.v (rowsM D.rows)), some (.v (mapsM D.maps)), some (.v (endsM D.ends)), some (.v (headsM D.heads)), some (.v (.int n)), none, none, none, none, none, none]) (M1 := M1) (by simp_arith [e1]) ?_
  refine sat_next (ρ1 := [some (.v (.ref 1)), some (.v (datM D)), some (.v (rowsM D.rows)), some (.v (mapsM D.maps)), some (.v (endsM D.ends)), some (.v (headsM D.heads)), some (.v (.int n)), some (.v (.int ki)), none, none, none, none, none]) (M1 := M1) (by simp_arith [b_div n 8 (by decide), dr_rows, hll, b_mod (n / 8) ni (by omega), ek]) ?_
  refine sat_next (ρ1 := [some (.v (.ref 1)), some (.v (datM D)), some (.v (rowsM D.rows)), some (.v (mapsM D.maps)), some (.v (endsM D.ends)), some (.v (headsM D.heads)), some (.v (.int n)), some (.v (.int ki)), some (.v (nextsM row.nexts)), some (.v (.bl row.done)), some (.v (.int row.name)), some (.v (.int row.bound)), some (.v (.bl row.cut))]) (M1 := M1) (by simp_arith [dr_rows, a1, fr_row]; rfl) ?_
  refine sat_set (fun ρ1 M2 => M2 = M1 ∧ ∃ row : Row, ρ1 = [some (.v (.ref 1)), some (.v (datM D)), some (.v (rowsM D.rows)), some (.v (mapsM D.maps)), some (.v (endsM D.ends)), some (.v (headsM D.heads)), some (.v (.int n)), some (.v (.int ki)), some (.v (nextsM row.nexts)), some (.v (.bl row.done)), some (.v (.int row.name)), some (.v (.int row.bound)), some (.v (.bl row.cut))] ∧ RowW D.rows.length row ∧ row.nexts.length ≤ 4 ∧ row.bound ≤ B + 3) ?_ ?_
  · have hb1 := hD.b row hrm
    have h4 := hD.n4 row hrm
    by_cases c1 : q < 3
    · obtain ⟨w, hw, hw0⟩ : ∃ w : Int, atM [MV.int 1, .int (-1), .int 3] q = some (.int w) ∧ w ≤ 3 := by
        obtain rfl | rfl | rfl : q = 0 ∨ q = 1 ∨ q = 2 := by omega
        · exact ⟨1, rfl, by decide⟩
        · exact ⟨-1, rfl, by decide⟩
        · exact ⟨3, rfl, by decide⟩
      have hbd := hrw.bd
      simp_arith [b_mod n 8 (by decide), ← hq, decide_eq_true c1, bi_max2, l_max2, hw]
      exact sat_ok ⟨rfl, rfl, ⟨row.nexts, row.done, row.name, if row.bound + w > 0 then row.bound + w else 0, row.cut⟩, rfl, ⟨hrw.l, hrw.p, hrw.nm, by show 0 ≤ (if row.bound + w > 0 then row.bound + w else 0) ∧ (if row.bound + w > 0 then row.bound + w else 0) ≤ 100000; split <;> omega⟩, h4, by show (if row.bound + w > 0 then row.bound + w else 0) ≤ B + 3; split <;> omega⟩
    · have c1' := decide_eq_false c1
      by_cases c2 : q = 3
      · have c2' : (q == 3) = true := by rw [c2]; rfl
        simp_arith [b_mod n 8 (by decide), ← hq, c1', c_eqi, c2']
        exact sat_ok ⟨rfl, rfl, ⟨row.nexts, row.done, row.name, row.bound, !row.cut⟩, rfl, ⟨hrw.l, hrw.p, hrw.nm, hrw.bd⟩, h4, by show row.bound ≤ B + 3; omega⟩
      · have c2' : (q == 3) = false := beq_eq_false_iff_ne.mpr c2
        by_cases c3 : q = 4
        · have c3' : (q == 4) = true := by rw [c3]; rfl
          simp_arith [b_mod n 8 (by decide), ← hq, c1', c_eqi, c2', c3']
          exact sat_ok ⟨rfl, rfl, ⟨row.nexts, !row.done, row.name, row.bound, row.cut⟩, rfl, ⟨hrw.l, hrw.p, hrw.nm, hrw.bd⟩, h4, by show row.bound ≤ B + 3; omega⟩
        · have c3' : (q == 4) = false := beq_eq_false_iff_ne.mpr c3
          by_cases c4 : q = 5
          · have c4' : (q == 5) = true := by rw [c4]; rfl
            obtain ⟨j, ej, hj⟩ := mod_nat (n / 512) eni (by omega)
            obtain ⟨row2, hrow2, hrm2⟩ := row_at hj
            have i2 : atM [nextsM row2.nexts, .bl row2.done, .int row2.name, .int row2.bound, .bl row2.cut] 2 = some (.int row2.name) := rfl
            simp_arith [b_mod n 8 (by decide), ← hq, c1', c_eqi, c2', c3', c4', b_div n 512 (by decide), dr_rows, hll, b_mod (n / 512) ni (by omega), ej, at_row hrow2, dr_row, i2]
            exact sat_ok ⟨rfl, rfl, ⟨row.nexts, row.done, row2.name, row.bound, row.cut⟩, rfl, ⟨hrw.l, hrw.p, (hD.w.r row2 hrm2).nm, hrw.bd⟩, h4, by show row.bound ≤ B + 3; omega⟩
          · have c4' : (q == 5) = false := beq_eq_false_iff_ne.mpr c4
            obtain ⟨j, ej, hj⟩ := mod_nat (n / 2048) eni (by omega)
            have h0 := Int.emod_nonneg (n / 512) (show (3 : Int) ≠ 0 by decide)
            have h1 := Int.emod_lt_of_pos (n / 512) (show (0 : Int) < 3 by decide)
            have c3c : cutM ((row.nexts.map pairM).reverse) none (some 3) = (row.nexts.reverse.take 3).map pairM := by
              have := cutt' (row.nexts.map pairM).reverse (k := 3) (ki := 3) rfl
              rw [this, ← List.map_reverse, List.map_take]
            have dn : ∀ M, (nextsM row.nexts).dr M = .tup (row.nexts.map pairM) := fun _ => rfl
            have ea : binM .add (.tup ((row.nexts.reverse.take 3).map pairM)) (.tup [.tup [.int (n / 512 % 3), .int ((j : Nat) : Int)]]) = some (nextsM (row.nexts.reverse.take 3 ++ [(n / 512 % 3, j)])) := by
              rw [b_addT (by rw [List.length_map, List.length_take]; show _ + 1 ≤ 16777216; omega)]
              unfold nextsM
              rw [List.map_append]; rfl
            have fn : ∀ ps, (nextsM ps).frz = some (nextsM ps) := fun _ => rfl
            simp_arith [b_mod n 8 (by decide), ← hq, c1', c_eqi, c2', c3', c4', dn, st_t, c3c, b_div n 512 (by decide), b_mod (n / 512) 3 (by decide), b_div n 2048 (by decide), dr_rows, hll, b_mod (n / 2048) ni (by omega), ej, ea, fn]
            have hlen : (row.nexts.reverse.take 3 ++ [(n / 512 % 3, j)]).length ≤ 4 := by rw [List.length_append, List.length_take, List.length_singleton]; omega
            refine sat_ok ⟨rfl, rfl, ⟨row.nexts.reverse.take 3 ++ [(n / 512 % 3, j)], row.done, row.name, row.bound, row.cut⟩, rfl, ⟨Nat.le_trans hlen (by decide), ?_, hrw.nm, hrw.bd⟩, hlen, by show row.bound ≤ B + 3; omega⟩
            intro p hp
            rcases List.mem_append.mp hp with hp | hp
            · exact hrw.p p (List.mem_reverse.mp (List.mem_of_mem_take hp))
            · rw [List.mem_singleton.mp hp]; exact ⟨h0, by show n / 512 % 3 ≤ 1000; omega, hj⟩
  · rintro _ M2 ⟨rfl, row, rfl, hrw, h4, hbd⟩
    have hz : D.rows.length ≤ 16777000 := by omega
    have ct : cutM (D.rows.map rowM) none (some ki) = (D.rows.take k).map rowM := by rw [cutt' _ eki, List.map_take]
    have cd : cutM (D.rows.map rowM) (some (ki + 1)) none = (D.rows.drop (k + 1)).map rowM := by rw [cutd' _ (k := k + 1) (by omega), List.map_drop]
    have ea1 : binM .add (.tup ((D.rows.take k).map rowM)) (.tup [rowM row]) = some (.tup ((D.rows.take k ++ [row]).map rowM)) := by
      rw [b_addT (by rw [List.length_map, List.length_take]; show _ + 1 ≤ 16777216; omega), List.map_append]; rfl
    have ea2 : binM .add (.tup ((D.rows.take k ++ [row]).map rowM)) (.tup ((D.rows.drop (k + 1)).map rowM)) = some (rowsM (D.rows.set k row)) := by
      rw [b_addT (by rw [List.length_map, List.length_map, List.length_append, List.length_take, List.length_drop, List.length_singleton]; show _ ≤ 16777216; omega), ← List.map_append, set_take row hk]; rfl
    have fn : ∀ ps, (nextsM ps).frz = some (nextsM ps) := fun _ => rfl
    have er : MV.tup [nextsM row.nexts, .bl row.done, .int row.name, .int row.bound, .bl row.cut] = rowM row := rfl
    have fms : (mapsM D.maps).frz = some (mapsM D.maps) := rfl
    simp_arith [dr_rows, ct, fn, er, fr_row, ea1, cd, ea2, fr_rows, fms, fr_ends, fr_heads]
    exact sat_ok ⟨k, row, rfl, hD.set (by omega) hrw h4 hbd, hD1, hO1⟩
end
end TK
end Q

/-! FbC: walks, things beside them. -/
namespace Q
open PySem
local macro_rules
  | `(tactic| simp_arith [$as,*]) => `(tactic| simp only [$as,*, evSs, evS, evT, evF, evE, evFs, evEs, evO, rb, ro, get0, getS, dr_int, dr_lst, dr_bl, dr_tup, dr_non, dr_str, t_bl, fr_int, fr_bl, fr_str, fr_non, fr_tup, fr_nw, fr_fz, fr_ro, fr_ref, ou_int, ou_bl, ou_tup, ou_nw, ou_fz, ou_bw, ou_ref, ou_non, ou_str, ix_l, ix_t, b_add, b_sub, l_len, l_lent, atM_0, atM_1, atM_2, List.getElem?_cons_zero, List.getElem?_cons_succ, List.length_cons, List.length_nil, List.replicate, List.cons_append, List.nil_append, if_true, Bool.false_eq_true, map1, map2, if_false, szif (Nat.zero_le _), nx_s, so_l, so_d, sv_, bg_, get0o, l_abs, c_ge, c_lt, c_gt, c_le, sl_l, sl_t, it_f, it_t, bi_abs, bi_len, List.set_cons_zero, List.set_cons_succ, Nat.reduceAdd, Nat.reduceLT, Option.map_some, szif (by decide : 1 ≤ 16777216), szif (by decide : 2 ≤ 16777216), szif (by decide : 3 ≤ 16777216), szif (by decide : 4 ≤ 16777216), szif (by decide : 5 ≤ 16777216), szif (by decide : 6 ≤ 16777216), szif (by decide : 7 ≤ 16777216), szif (by decide : 8 ≤ 16777216), szif (by decide : 9 ≤ 16777216), bnd, sq_l, sq_t, wp_n, wp_c, bi_tuple, l_tpl, l_tpt])
theorem at_last' {α : Type} (xs : List α) (x : α) : atM (xs ++ [x]) (-1) = some x := by
  unfold atM
  rw [if_neg (by decide), if_pos (by rw [List.length_append, List.length_singleton]; omega), List.length_append, List.length_singleton]
  rw [show ((-1 : Int) + ((xs.length + 1 : Nat) : Int)).toNat = xs.length by omega, List.getElem?_append_right (Nat.le_refl _), Nat.sub_self]; rfl
namespace TK
section
variable {T : Tab} {d b : Nat} {M : Store}
end
end TK
end Q

/-! FbD: answers. -/
namespace Q
open PySem
local macro_rules
  | `(tactic| simp_arith [$as,*]) => `(tactic| simp only [$as,*, evSs, evS, evT, evF, evE, evFs, evEs, evO, rb, ro, get0, getS, dr_int, dr_lst, dr_bl, dr_tup, dr_non, dr_str, t_bl, fr_int, fr_bl, fr_str, fr_non, fr_tup, fr_nw, fr_fz, fr_ro, fr_ref, ou_int, ou_bl, ou_tup, ou_nw, ou_fz, ou_bw, ou_ref, ou_non, ou_str, ix_l, ix_t, b_add, b_sub, l_len, l_lent, atM_0, atM_1, atM_2, List.getElem?_cons_zero, List.getElem?_cons_succ, List.length_cons, List.length_nil, List.replicate, List.cons_append, List.nil_append, if_true, Bool.false_eq_true, map1, map2, if_false, szif (Nat.zero_le _), nx_s, so_l, so_d, sv_, bg_, get0o, l_abs, c_ge, c_lt, c_gt, c_le, sl_l, sl_t, it_f, it_t, bi_abs, bi_len, List.set_cons_zero, List.set_cons_succ, Nat.reduceAdd, Nat.reduceLT, Option.map_some, szif (by decide : 1 ≤ 16777216), szif (by decide : 2 ≤ 16777216), szif (by decide : 3 ≤ 16777216), szif (by decide : 4 ≤ 16777216), szif (by decide : 5 ≤ 16777216), szif (by decide : 6 ≤ 16777216), szif (by decide : 7 ≤ 16777216), szif (by decide : 8 ≤ 16777216), szif (by decide : 9 ≤ 16777216), bnd, sq_l, sq_t, wp_n, wp_c, bi_tuple, l_tpl, l_tpt])
namespace TK
def fdWayOf : Fd := ⟨2, 4, [.own 2 (.lst (.cons (.meth (.var 0) 11 (.nil)) (.nil))), .forr (.nm 3) (.var 1) [.app 2 (.idx (.idx (.meth (.var 0) 8 (.cons (.idx (.var 2) (.neg (.con (.int 1)))) (.nil))) (.var 3)) (.con (.int 1)))], .ret (.bi .tuple (.cons (.var 2) (.nil)))]⟩
def fdStart : Fd := ⟨1, 1, [.ret (.tup (.cons (.con (.int 0)) (.nil)))]⟩
def fdAsSt : Fd := ⟨1, 3, [.ret (.bi .tuple (.cons (.lc (.tup (.cons (.var 1) (.cons (.tup (.cons (.var 2) (.nil))) (.nil)))) [1, 2] (.tup [.nm 1, .nm 2]) (.var 0) (.con (.bl true))) (.nil)))]⟩
def fdNexts : Fd := ⟨2, 2, [.ret (.call 57 (.cons (.idx (.meth (.var 0) 18 (.cons (.var 1) (.nil))) (.con (.int 0))) (.nil)))]⟩
def fdDone : Fd := ⟨2, 2, [.ret (.idx (.meth (.var 0) 18 (.cons (.var 1) (.nil))) (.con (.int 1)))]⟩
/-- a next, as the doors tell it -/
def stepM (p : Int × Nat) : MV := .tup [.int p.1, stM p.2]
def stepsM (ps : List (Int × Nat)) : MV := .tup (ps.map stepM)
theorem dr_steps (ps : List (Int × Nat)) (M : Store) : (stepsM ps).dr M = .tup (ps.map stepM) := rfl
theorem ou_steps (ps : List (Int × Nat)) : (stepsM ps).out = stepsM ps := rfl
structure TbA (T : Tab) : Prop extends TbD T where
  h1 : T.fn 1 = some K13.fdWhole
  h4 : T.fn 4 = some fdStart
  h57 : T.fn 57 = some fdAsSt
  h61 : T.fn 61 = some fdNexts
  h163 : T.fn 163 = some fdDone
  m3 : T.mt 3 3 = some 163
  m8 : T.mt 3 8 = some 61
  m11 : T.mt 3 11 = some 4
section
variable {T : Tab} {d : Nat} {M : Store} {r : Nat} {D : Dat}
theorem gn3 (D : Dat) : getF (Fs D) 3 = none := rfl
theorem gn8 (D : Dat) : getF (Fs D) 8 = none := rfl
theorem gn11 (D : Dat) : getF (Fs D) 11 = none := rfl
theorem start_ok {v : MV} (h4 : T.fn 4 = some fdStart) : evC T (d + 1) 4 [v] M = .ok (stM 0) M := by
  refine sat_eq (sat_call [some (.v (v))] h4 rfl rfl ?_)
  simp_arith [fdStart]
  exact sat_ok ⟨rfl, rfl⟩
theorem asSt_ok (h57 : T.fn 57 = some fdAsSt) {ps : List (Int × Nat)} (hl : ps.length ≤ 1000) : evC T (d + 1) 57 [nextsM ps] M = .ok (stepsM ps) M := by
  refine sat_eq (sat_call [some (.v (nextsM ps)), none, none] h57 rfl rfl ?_)
  simp_arith [fdAsSt, nextsM]
  rw [lc_map (φ := pairM) (fun p => some (stepM p)) ?_ (Nat.le_trans hl (by decide))]
  · simp_arith [K13.fm_some]
    exact sat_ok ⟨rfl, rfl⟩
  · rintro ⟨c, j⟩ _
    simp_arith [pairM, bg_t, bindGs, bgs_n]
    rfl
theorem nexts_ok (t : TbD T) (h57 : T.fn 57 = some fdAsSt) (h61 : T.fn 61 = some fdNexts) (hD : D.W) (hk : Tk M r D) {k : Nat} {row : Row} (h : D.rows[k]? = some row) : evC T (d + 2) 61 [.ref r, stM k] M = .ok (stepsM row.nexts) M := by
  have h8 := (hD.r row (List.mem_of_getElem? h)).l
  refine sat_eq (sat_call [some (.v (.ref r)), some (.v (stM k))] h61 rfl rfl ?_)
  have fn : ∀ ps, (nextsM ps).frz = some (nextsM ps) := fun _ => rfl
  simp_arith [fdNexts, ins_r hk.ob, t.m18, gn18, Option.isNone_none, fr_st, row_ok t hk h, dr_row, fn, asSt_ok h57 (show row.nexts.length ≤ 1000 by omega), ou_steps]
  exact sat_ok ⟨rfl, rfl⟩
theorem done_ok (t : TbD T) (h163 : T.fn 163 = some fdDone) (hk : Tk M r D) {k : Nat} {row : Row} (h : D.rows[k]? = some row) : evC T (d + 2) 163 [.ref r, stM k] M = .ok (.bl row.done) M := by
  refine sat_eq (sat_call [some (.v (.ref r)), some (.v (stM k))] h163 rfl rfl ?_)
  simp_arith [fdDone, ins_r hk.ob, t.m18, gn18, Option.isNone_none, fr_st, row_ok t hk h, dr_row]
  exact sat_ok ⟨rfl, rfl⟩
end
end TK
end Q

/-! FbE: k18: what is gone, things beside answers, what is due. -/
namespace Q
open PySem
local macro_rules
  | `(tactic| simp_arith [$as,*]) => `(tactic| simp only [$as,*, evSs, evS, evT, evF, evE, evFs, evEs, evO, rb, ro, get0, getS, dr_int, dr_lst, dr_bl, dr_tup, dr_non, dr_str, t_bl, fr_int, fr_bl, fr_str, fr_non, fr_tup, fr_nw, fr_fz, fr_ro, fr_ref, ou_int, ou_bl, ou_tup, ou_nw, ou_fz, ou_bw, ou_ref, ou_non, ou_str, ix_l, ix_t, b_add, b_sub, l_len, l_lent, atM_0, atM_1, atM_2, List.getElem?_cons_zero, List.getElem?_cons_succ, List.length_cons, List.length_nil, List.replicate, List.cons_append, List.nil_append, if_true, Bool.false_eq_true, map1, map2, if_false, szif (Nat.zero_le _), nx_s, so_l, so_d, sv_, bg_, get0o, l_abs, c_ge, c_lt, c_gt, c_le, sl_l, sl_t, it_f, it_t, bi_abs, bi_len, List.set_cons_zero, List.set_cons_succ, Nat.reduceAdd, Nat.reduceLT, Option.map_some, szif (by decide : 1 ≤ 16777216), szif (by decide : 2 ≤ 16777216), szif (by decide : 3 ≤ 16777216), szif (by decide : 4 ≤ 16777216), szif (by decide : 5 ≤ 16777216), szif (by decide : 6 ≤ 16777216), szif (by decide : 7 ≤ 16777216), szif (by decide : 8 ≤ 16777216), szif (by decide : 9 ≤ 16777216), bnd, sq_l, sq_t, wp_n, wp_c, bi_tuple, l_tpl, l_tpt])
namespace TK
section
variable {T : Tab} {d b : Nat} {M : Store} {r : Nat} {D : Dat}
end
end TK
end Q

/-! FbF: k18, the law. -/
namespace Q
open PySem
local macro_rules
  | `(tactic| simp_arith [$as,*]) => `(tactic| simp only [$as,*, evSs, evS, evT, evF, evE, evFs, evEs, evO, rb, ro, get0, getS, dr_int, dr_lst, dr_bl, dr_tup, dr_non, dr_str, t_bl, fr_int, fr_bl, fr_str, fr_non, fr_tup, fr_nw, fr_fz, fr_ro, fr_ref, ou_int, ou_bl, ou_tup, ou_nw, ou_fz, ou_bw, ou_ref, ou_non, ou_str, ix_l, ix_t, b_add, b_sub, l_len, l_lent, atM_0, atM_1, atM_2, List.getElem?_cons_zero, List.getElem?_cons_succ, List.length_cons, List.length_nil, List.replicate, List.cons_append, List.nil_append, if_true, Bool.false_eq_true, map1, map2, if_false, szif (Nat.zero_le _), nx_s, so_l, so_d, sv_, bg_, get0o, l_abs, c_ge, c_lt, c_gt, c_le, sl_l, sl_t, it_f, it_t, bi_abs, bi_len, List.set_cons_zero, List.set_cons_succ, Nat.reduceAdd, Nat.reduceLT, Option.map_some, szif (by decide : 1 ≤ 16777216), szif (by decide : 2 ≤ 16777216), szif (by decide : 3 ≤ 16777216), szif (by decide : 4 ≤ 16777216), szif (by decide : 5 ≤ 16777216), szif (by decide : 6 ≤ 16777216), szif (by decide : 7 ≤ 16777216), szif (by decide : 8 ≤ 16777216), szif (by decide : 9 ≤ 16777216), bnd, sq_l, sq_t, wp_n, wp_c, bi_tuple, l_tpl, l_tpt])
namespace TK
theorem Dat.Sm.mono {D : Dat} {B C : Int} (h : D.Sm B) (hBC : B ≤ C) : D.Sm C := ⟨h.w, h.l12, h.n4, fun r hr => Int.le_trans (h.b r hr) hBC⟩
end TK
end Q

/-! FcA: tries in order, the plain law. -/
namespace Q
open PySem
namespace TK
inductive Why | done | round | cut | non
  deriving DecidableEq
def whyF (cuts : Bool) (row : Row) (rnd : Bool) : Option Why :=
  if row.done = true then some .done else if rnd = true then some .round else if (cuts && row.cut) = true then some .cut else if row.nexts.isEmpty = true then some .non else none
abbrev Lf := List Nat × Why
/-- a node of the tries: steps, the rows ahead, the row -/
structure Nd where
  st : List Nat
  pre : List Nat
  here : Nat
def kids (row : Row) (x : Nd) : List Nd := row.nexts.zipIdx.map fun p => ⟨x.st ++ [p.2], x.pre ++ [x.here], p.1.2⟩
def lvs (rs : List Row) (cuts : Bool) : Nat → Nd → List Lf
  | 0, _ => []
  | n + 1, x => match rs[x.here]? with
    | none => []
    | some row => match whyF cuts row (decide (x.here ∈ x.pre)) with
      | some w => [(x.st, w)]
      | none => (kids row x).flatMap (lvs rs cuts n)
def szs (rs : List Row) (cuts : Bool) : Nat → Nd → Nat
  | 0, _ => 0
  | n + 1, x => match rs[x.here]? with
    | none => 0
    | some row => match whyF cuts row (decide (x.here ∈ x.pre)) with
      | some w => 1
      | none => 1 + ((kids row x).map (szs rs cuts n)).sum
/-- a node as they come -/
structure NdOk (n : Nat) (x : Nd) : Prop where
  nd : x.pre.Nodup
  lt : ∀ k ∈ x.pre, k < n
  h : x.here < n
  len : x.st.length = x.pre.length
theorem fm_congr {α β : Type} {f g : α → List β} : ∀ {xs : List α}, (∀ x ∈ xs, f x = g x) → xs.flatMap f = xs.flatMap g
  | [], _ => rfl
  | x :: xs, h => by rw [List.flatMap_cons, List.flatMap_cons, h x (List.mem_cons_self ..), fm_congr fun y hy => h y (List.mem_cons_of_mem _ hy)]
def lv (rs : List Row) (cuts : Bool) (x : Nd) : List Lf := lvs rs cuts (rs.length + 2 - x.pre.length) x
def sz (rs : List Row) (cuts : Bool) (x : Nd) : Nat := szs rs cuts (rs.length + 2 - x.pre.length) x
section
variable {rs : List Row} {cuts : Bool} {x : Nd} {row : Row}
theorem NdOk.fuel (h : NdOk rs.length x) : ∃ m, rs.length + 2 - x.pre.length = m + 1 ∧ m = rs.length + 2 - (x.pre.length + 1) := by
  have := nodup_len h.nd h.lt
  exact ⟨rs.length + 1 - x.pre.length, by omega, by omega⟩
theorem lv_leaf (h : NdOk rs.length x) (hr : rs[x.here]? = some row) {w : Why} (hw : whyF cuts row (decide (x.here ∈ x.pre)) = some w) : lv rs cuts x = [(x.st, w)] := by
  obtain ⟨m, e, _⟩ := h.fuel
  unfold lv
  rw [e]
  simp only [lvs, hr, hw]
theorem sz_leaf (h : NdOk rs.length x) (hr : rs[x.here]? = some row) {w : Why} (hw : whyF cuts row (decide (x.here ∈ x.pre)) = some w) : sz rs cuts x = 1 := by
  obtain ⟨m, e, _⟩ := h.fuel
  unfold sz
  rw [e]
  simp only [szs, hr, hw]
theorem why_none {cuts : Bool} {row : Row} {b : Bool} (h : whyF cuts row b = none) : row.done = false ∧ b = false ∧ (cuts && row.cut) = false ∧ row.nexts ≠ [] := by
  unfold whyF at h
  split at h
  · cases h
  · split at h
    · cases h
    · split at h
      · cases h
      · split at h
        · cases h
        · rename_i h1 h2 h3 h4
          refine ⟨by simpa using h1, by simpa using h2, by simpa using h3, fun e => h4 (by rw [e]; rfl)⟩
theorem kid_ok (h : NdOk rs.length x) (hc : ∀ p ∈ row.nexts, p.2 < rs.length) (hw : whyF cuts row (decide (x.here ∈ x.pre)) = none) : ∀ y ∈ kids row x, NdOk rs.length y ∧ y.pre = x.pre ++ [x.here] := by
  intro y hy
  obtain ⟨p, hp, rfl⟩ := List.mem_map.mp hy
  have hn := (why_none hw).2.1
  rw [decide_eq_false_iff_not] at hn
  refine ⟨⟨?_, ?_, hc p.1 ?_, ?_⟩, rfl⟩
  · show (x.pre ++ [x.here]).Nodup
    rw [List.nodup_append]
    refine ⟨h.nd, by simp, ?_⟩
    intro a ha b hb e
    rw [List.mem_singleton.mp hb] at e
    exact hn (e ▸ ha)
  · intro k hk
    rcases List.mem_append.mp hk with hk | hk
    · exact h.lt k hk
    · rw [List.mem_singleton.mp hk]; exact h.h
  · exact (List.mem_zipIdx_iff_getElem?.mp (by exact hp)) |> fun e => List.mem_of_getElem? e
  · show (x.st ++ [p.2]).length = (x.pre ++ [x.here]).length
    rw [List.length_append, List.length_append, h.len]; rfl
theorem lv_node (h : NdOk rs.length x) (hr : rs[x.here]? = some row) (hc : ∀ p ∈ row.nexts, p.2 < rs.length) (hw : whyF cuts row (decide (x.here ∈ x.pre)) = none) : lv rs cuts x = (kids row x).flatMap (lv rs cuts) := by
  obtain ⟨m, e, em⟩ := h.fuel
  have hk := kid_ok h hc hw
  unfold lv
  rw [e]
  simp only [lvs, hr, hw]
  refine fm_congr fun y hy => ?_
  rw [(hk y hy).2, List.length_append, List.length_singleton, ← em]
theorem sz_node (h : NdOk rs.length x) (hr : rs[x.here]? = some row) (hc : ∀ p ∈ row.nexts, p.2 < rs.length) (hw : whyF cuts row (decide (x.here ∈ x.pre)) = none) : sz rs cuts x = 1 + ((kids row x).map (sz rs cuts)).sum := by
  obtain ⟨m, e, em⟩ := h.fuel
  have hk := kid_ok h hc hw
  unfold sz
  rw [e]
  simp only [szs, hr, hw]
  congr 2
  apply List.map_congr_left
  intro y hy
  rw [(hk y hy).2, List.length_append, List.length_singleton, ← em]
theorem kids_ne (hw : whyF cuts row (decide (x.here ∈ x.pre)) = none) : kids row x ≠ [] := by
  intro e
  have := (why_none hw).2.2.2
  apply this
  have h : (kids row x).length = row.nexts.length := by unfold kids; rw [List.length_map, List.length_zipIdx]
  rw [e] at h
  exact List.length_eq_zero_iff.mp h.symm
/-- a node, and what waits behind it -/
inductive Zp (rs : List Row) (cuts : Bool) : Nd → List Nd → Prop
  | root : Zp rs cuts ⟨[], [], 0⟩ []
  | kid {x : Nd} {P L R : List Nd} {y : Nd} {row : Row} : Zp rs cuts x P → rs[x.here]? = some row → whyF cuts row (decide (x.here ∈ x.pre)) = none → kids row x = L ++ y :: R → Zp rs cuts y (R ++ P)
theorem Zp.ok (h0 : 0 < rs.length) (hc : ∀ r ∈ rs, ∀ p ∈ r.nexts, p.2 < rs.length) {P : List Nd} (z : Zp rs cuts x P) : NdOk rs.length x ∧ ∀ y ∈ P, NdOk rs.length y := by
  induction z with
  | root => exact ⟨⟨List.Pairwise.nil, nofun, h0, rfl⟩, nofun⟩
  | @kid x P L R y row z hr hw hk ih =>
    have := kid_ok ih.1 (hc row (List.mem_of_getElem? hr)) hw
    rw [hk] at this
    refine ⟨(this y (List.mem_append.mpr (.inr (List.mem_cons_self ..)))).1, fun u hu => ?_⟩
    rcases List.mem_append.mp hu with hu | hu
    · exact (this u (List.mem_append.mpr (.inr (List.mem_cons_of_mem _ hu)))).1
    · exact ih.2 u hu
theorem Zp.next {P : List Nd} {y : Nd} (z : Zp rs cuts x (y :: P)) : Zp rs cuts y P := by
  generalize hQ : y :: P = Q at z
  induction z generalizing y P with
  | root => cases hQ
  | @kid x P' L R u row z hr hw hk ih =>
    cases R with
    | nil => exact ih hQ
    | cons v R' =>
      injection hQ with h1 h2
      subst h1
      rw [h2]
      exact .kid (L := L ++ [u]) z hr hw (by rw [hk, List.append_assoc]; rfl)
def lvP (rs : List Row) (cuts : Bool) (P : List Nd) : List Lf := P.flatMap (lv rs cuts)
theorem lvP_cons (y : Nd) (P : List Nd) : lvP rs cuts (y :: P) = lv rs cuts y ++ lvP rs cuts P := List.flatMap_cons ..
theorem lvP_app (P R : List Nd) : lvP rs cuts (P ++ R) = lvP rs cuts P ++ lvP rs cuts R := List.flatMap_append ..
/-- down to the first kid -/
theorem Zp.down (h0 : 0 < rs.length) (hc : ∀ r ∈ rs, ∀ p ∈ r.nexts, p.2 < rs.length) {P : List Nd} (z : Zp rs cuts x P) (hr : rs[x.here]? = some row) (hw : whyF cuts row (decide (x.here ∈ x.pre)) = none) : ∃ (c : Int) (j : Nat) (ps : List (Int × Nat)) (R : List Nd), row.nexts = (c, j) :: ps ∧ Zp rs cuts ⟨x.st ++ [0], x.pre ++ [x.here], j⟩ (R ++ P) ∧ lvP rs cuts (x :: P) = lvP rs cuts (⟨x.st ++ [0], x.pre ++ [x.here], j⟩ :: (R ++ P)) := by
  have hx := z.ok h0 hc
  have hl := lv_node hx.1 hr (hc row (List.mem_of_getElem? hr)) hw
  have hne := (why_none hw).2.2.2
  match hn : row.nexts, hne with
  | (c, j) :: ps, _ =>
    have hk : ∃ R, kids row x = ⟨x.st ++ [0], x.pre ++ [x.here], j⟩ :: R := by
      unfold kids
      rw [hn, List.zipIdx_cons, List.map_cons]
      exact ⟨_, rfl⟩
    obtain ⟨R, hk⟩ := hk
    refine ⟨c, j, ps, R, rfl, .kid (L := []) z hr hw hk, ?_⟩
    rw [lvP_cons, hl, hk, lvP_cons, lvP_app, List.flatMap_cons, List.append_assoc]
    rfl
/-- the steps of the next one -/
def sbF (rs : List Row) (st pre : List Nat) : Nat → Option (List Nat)
  | 0 => none
  | a + 1 => match st[a]?, pre[a]? with
    | some k, some h => match rs[h]? with
      | some row => if k + 1 < row.nexts.length then some (st.take a ++ [k + 1]) else sbF rs st pre a
      | none => none
    | _, _ => none
theorem sb_pre {st pre : List Nat} (s2 p2 : List Nat) : ∀ {a : Nat}, a ≤ st.length → a ≤ pre.length → sbF rs (st ++ s2) (pre ++ p2) a = sbF rs st pre a
  | 0, _, _ => rfl
  | a + 1, h1, h2 => by
    simp only [sbF]
    rw [List.getElem?_append_left (by omega), List.getElem?_append_left (by omega), sb_pre s2 p2 (by omega) (by omega), List.take_append_of_le_length (by omega)]
theorem Zp.sb (h0 : 0 < rs.length) (hc : ∀ r ∈ rs, ∀ p ∈ r.nexts, p.2 < rs.length) {P : List Nd} (z : Zp rs cuts x P) : sbF rs x.st x.pre x.st.length = P.head?.map Nd.st := by
  induction z with
  | root => rfl
  | @kid x P L R y row z hr hw hk ih =>
    have hx := (z.ok h0 hc).1
    have hy : y = ⟨x.st ++ [L.length], x.pre ++ [x.here], y.here⟩ := by
      have : (kids row x)[L.length]? = some y := by rw [hk]; simp
      unfold kids at this
      rw [List.getElem?_map, List.getElem?_zipIdx] at this
      cases h : row.nexts[L.length]? with
      | none => rw [h] at this; cases this
      | some p => rw [h] at this; simp at this; rw [← this]
    have hlen : row.nexts.length = L.length + 1 + R.length := by
      have : (kids row x).length = row.nexts.length := by unfold kids; rw [List.length_map, List.length_zipIdx]
      rw [← this, hk]; simp; omega
    rw [hy]
    show sbF rs (x.st ++ [L.length]) (x.pre ++ [x.here]) (x.st ++ [L.length]).length = _
    rw [List.length_append, List.length_singleton]
    simp only [sbF]
    have e1 : (x.st ++ [L.length])[x.st.length]? = some L.length := by simp
    have e2 : (x.pre ++ [x.here])[x.st.length]? = some x.here := by rw [hx.len]; simp
    rw [e1, e2]
    simp only [hr]
    cases R with
    | nil =>
      rw [if_neg (by simp at hlen; omega), sb_pre _ _ (Nat.le_refl _) (by rw [hx.len]; exact Nat.le_refl _), ih]
      rfl
    | cons u R' =>
      rw [if_pos (by simp at hlen; omega)]
      have hu : u.st = x.st ++ [L.length + 1] := by
        have : (kids row x)[L.length + 1]? = some u := by rw [hk]; simp
        unfold kids at this
        rw [List.getElem?_map, List.getElem?_zipIdx] at this
        cases h : row.nexts[L.length + 1]? with
        | none => rw [h] at this; cases this
        | some p => rw [h] at this; simp at this; rw [← this]
      rw [List.take_left' rfl]
      show some _ = some u.st
      rw [hu]
/-- steps that lead along a way -/
def Pth (rs : List Row) (st way : List Nat) : Prop := way.length = st.length + 1 ∧ way[0]? = some 0 ∧ ∀ i k, st[i]? = some k → ∃ h row p, way[i]? = some h ∧ rs[h]? = some row ∧ row.nexts[k]? = some p ∧ way[i + 1]? = some p.2
theorem Pth.snoc {st way : List Nat} {k h : Nat} {row : Row} {p : Int × Nat} (a : Pth rs st (way ++ [h])) (hr : rs[h]? = some row) (hk : row.nexts[k]? = some p) : Pth rs (st ++ [k]) (way ++ [h] ++ [p.2]) := by
  obtain ⟨a1, a2, a3⟩ := a
  refine ⟨by rw [List.length_append, a1, List.length_append]; rfl, by rw [List.getElem?_append_left (by rw [a1]; omega)]; exact a2, fun i j hi => ?_⟩
  by_cases c : i < st.length
  · rw [List.getElem?_append_left c] at hi
    obtain ⟨h', row', p', b1, b2, b3, b4⟩ := a3 i j hi
    exact ⟨h', row', p', by rw [List.getElem?_append_left (by rw [a1]; omega)]; exact b1, b2, b3, by rw [List.getElem?_append_left (by rw [a1]; omega)]; exact b4⟩
  · have hl := (List.getElem?_eq_some_iff.mp hi).1
    rw [List.length_append, List.length_singleton] at hl
    obtain rfl : i = st.length := by omega
    rw [List.getElem?_append_right (Nat.le_refl _), Nat.sub_self] at hi
    cases hi
    have wl : way.length = st.length := by rw [List.length_append, List.length_singleton] at a1; omega
    refine ⟨h, row, p, ?_, hr, hk, ?_⟩
    · rw [List.getElem?_append_left (by rw [a1]; omega), List.getElem?_append_right (by omega), wl, Nat.sub_self]; rfl
    · rw [List.getElem?_append_right (by rw [a1]; exact Nat.le_refl _), a1, Nat.sub_self]; rfl
theorem kids_at {L R : List Nd} {y : Nd} (hk : kids row x = L ++ y :: R) : ∃ p, row.nexts[L.length]? = some p ∧ y = ⟨x.st ++ [L.length], x.pre ++ [x.here], p.2⟩ := by
  have : (kids row x)[L.length]? = some y := by rw [hk]; simp
  unfold kids at this
  rw [List.getElem?_map, List.getElem?_zipIdx] at this
  cases h : row.nexts[L.length]? with
  | none => rw [h] at this; cases this
  | some p => rw [h] at this; simp at this; exact ⟨p, rfl, this.symm⟩
theorem Zp.pth {P : List Nd} (z : Zp rs cuts x P) : Pth rs x.st (x.pre ++ [x.here]) := by
  induction z with
  | root => exact ⟨rfl, rfl, fun i k h => by cases h⟩
  | @kid x P L R y row z hr hw hk ih =>
    obtain ⟨p, hp, rfl⟩ := kids_at hk
    exact ih.snoc hr hp
theorem lv_ne (h0 : 0 < rs.length) (hc : ∀ r ∈ rs, ∀ p ∈ r.nexts, p.2 < rs.length) : ∀ (m : Nat) {x : Nd} {P : List Nd}, Zp rs cuts x P → rs.length + 2 - x.pre.length ≤ m → lv rs cuts x ≠ []
  | 0, x, P, z, hm => by
    have := nodup_len (z.ok h0 hc).1.nd (z.ok h0 hc).1.lt
    omega
  | m + 1, x, P, z, hm => by
    have hx := (z.ok h0 hc).1
    obtain ⟨row, hr⟩ : ∃ row, rs[x.here]? = some row := ⟨_, List.getElem?_eq_getElem hx.h⟩
    cases hw : whyF cuts row (decide (x.here ∈ x.pre)) with
    | some w => rw [lv_leaf hx hr hw]; exact fun e => nomatch e
    | none =>
      obtain ⟨c, j, ps, R, hn, z2, _⟩ := z.down h0 hc hr hw
      have ne := lv_ne h0 hc m z2 (by
        have := nodup_len hx.nd hx.lt
        show rs.length + 2 - (x.pre ++ [x.here]).length ≤ m
        rw [List.length_append, List.length_singleton]; omega)
      rw [lv_node hx hr (hc _ (List.mem_of_getElem? hr)) hw]
      unfold kids
      rw [hn, List.zipIdx_cons, List.map_cons, List.flatMap_cons]
      intro e
      exact ne (List.append_eq_nil_iff.mp e).1
end
end TK
end Q

/-! FcB: trees: the program's doors. -/
namespace Q
open PySem
local macro_rules
  | `(tactic| simp_arith [$as,*]) => `(tactic| simp only [$as,*, evSs, evS, evT, evF, evE, evFs, evEs, evO, rb, ro, get0, getS, dr_int, dr_lst, dr_bl, dr_tup, dr_non, dr_str, t_bl, fr_int, fr_bl, fr_str, fr_non, fr_tup, fr_nw, fr_fz, fr_ro, fr_ref, ou_int, ou_bl, ou_tup, ou_nw, ou_fz, ou_bw, ou_ref, ou_non, ou_str, ix_l, ix_t, b_add, b_sub, l_len, l_lent, atM_0, atM_1, atM_2, List.getElem?_cons_zero, List.getElem?_cons_succ, List.length_cons, List.length_nil, List.replicate, List.cons_append, List.nil_append, if_true, Bool.false_eq_true, map1, map2, if_false, szif (Nat.zero_le _), nx_s, so_l, so_d, sv_, bg_, get0o, l_abs, c_ge, c_lt, c_gt, c_le, sl_l, sl_t, it_f, it_t, bi_abs, bi_len, List.set_cons_zero, List.set_cons_succ, Nat.reduceAdd, Nat.reduceLT, Option.map_some, szif (by decide : 1 ≤ 16777216), szif (by decide : 2 ≤ 16777216), szif (by decide : 3 ≤ 16777216), szif (by decide : 4 ≤ 16777216), szif (by decide : 5 ≤ 16777216), szif (by decide : 6 ≤ 16777216), szif (by decide : 7 ≤ 16777216), szif (by decide : 8 ≤ 16777216), szif (by decide : 9 ≤ 16777216), bnd, sq_l, sq_t, wp_n, wp_c, bi_tuple, l_tpl, l_tpt])
theorem cut_init {α : Type} (xs : List α) (x : α) : cutM (xs ++ [x]) none (some (-1)) = xs := by
  unfold cutM
  show ((xs ++ [x]).drop 0).take (sIx (xs ++ [x]).length (xs ++ [x]).length (some (-1)) - 0) = xs
  have : sIx (xs ++ [x]).length (xs ++ [x]).length (some (-1)) = xs.length := by
    show (if (-1 : Int) < 0 then ((-1 : Int) + ((xs ++ [x]).length : Nat)).toNat else min (-1 : Int).toNat (xs ++ [x]).length) = _
    rw [if_pos (by decide), List.length_append, List.length_singleton]; omega
  rw [this, List.drop_zero, Nat.sub_zero, List.take_left' rfl]
theorem in_stT (k : Nat) (zs : List Nat) : cmpM .inn (stM k) (.tup (zs.map stM)) = some (decide (k ∈ zs)) := by
  have e : cmpM .inn (stM k) (.tup (zs.map stM)) = if (stM k).shp 60 && (MV.tup (zs.map stM)).shp 60 then some ((zs.map stM).any fun y => y.eqv (stM k)) else none := rfl
  have e2 : cmpM .nin (stM k) (.lst .fz (zs.map stM)) = if (stM k).shp 60 && (MV.tup (zs.map stM)).shp 60 then some (!(zs.map stM).any fun y => y.eqv (stM k)) else none := rfl
  have e3 := nin_st .fz k zs
  rw [e2] at e3
  rw [e]
  cases h : ((stM k).shp 60 && (MV.tup (zs.map stM)).shp 60) with
  | false => rw [h] at e3; cases e3
  | true =>
    rw [h] at e3
    injection e3 with e3
    rw [if_pos rfl]
    congr 1
    have := congrArg (! ·) e3
    simpa using this
theorem rangeD_nat (n : Nat) : rangeD ((n : Int) - 1) (-1) = (List.range n).reverse.map natM := by
  unfold rangeD
  rw [show ((n : Int) - 1 - -1).toNat = n by omega]
  apply List.ext_getElem
  · simp
  · intro i h1 h2
    simp at h1
    simp only [List.getElem_map, List.getElem_range, List.getElem_reverse, List.length_range]
    show MV.int _ = MV.int _
    congr 1
    omega
theorem bi_r3Q : Bi.range3.it = true := rfl
theorem l_r3 (i : Int) (h : -1000000 < i ∧ i < 1000000) : evBi .range3 [.int i, .int (-1), .int (-1)] = some (.lst .nw (rangeD i (-1))) := if_pos ⟨rfl, h, by decide, by decide⟩
def MV.isS : MV → Bool
  | .str _ => true
  | _ => false
namespace TK
def fdEndOf : Fd := ⟨3, 4, [.set 3 (.idx (.var 1) (.neg (.con (.int 1)))), .iff (.meth (.var 0) 3 (.cons (.var 3) (.nil))) [.ret (.con (.str "done"))] [], .iff (.cmp .inn (.var 3) (.sl (.var 1) (.noE) (.neg (.con (.int 1))))) [.ret (.con (.str "round"))] [], .iff (.andd (.var 2) (.meth (.var 0) 6 (.cons (.var 3) (.nil)))) [.ret (.con (.str "cut"))] [], .ret (.ite (.cmp .eq (.meth (.var 0) 8 (.cons (.var 3) (.nil))) (.tup (.nil))) (.con (.str "none")) (.con (.non)))]⟩
def fdLeafBehind : Fd := ⟨3, 5, [.set 3 (.call 161 (.cons (.var 0) (.cons (.var 1) (.nil)))), .set 4 (.call 171 (.cons (.var 0) (.cons (.var 3) (.cons (.var 2) (.nil))))), .whl (.cmp .isN (.var 4) (.con (.non))) [.set 1 (.bin .add (.var 1) (.tup (.cons (.con (.int 0)) (.nil)))), .set 3 (.bin .add (.var 3) (.tup (.cons (.idx (.idx (.meth (.var 0) 8 (.cons (.idx (.var 3) (.neg (.con (.int 1)))) (.nil))) (.con (.int 0))) (.con (.int 1))) (.nil)))), .set 4 (.call 171 (.cons (.var 0) (.cons (.var 3) (.cons (.var 2) (.nil)))))], .ret (.tup (.cons (.var 1) (.cons (.var 4) (.nil))))]⟩
def fdStepsBehind : Fd := ⟨2, 4, [.set 2 (.call 161 (.cons (.var 0) (.cons (.var 1) (.nil)))), .forr (.nm 3) (.bi .range3 (.cons (.bin .sub (.bi .len (.cons (.var 1) (.nil))) (.con (.int 1))) (.cons (.neg (.con (.int 1))) (.cons (.neg (.con (.int 1))) (.nil))))) [.iff (.cmp .lt (.bin .add (.idx (.var 1) (.var 3)) (.con (.int 1))) (.bi .len (.cons (.meth (.var 0) 8 (.cons (.idx (.var 2) (.var 3)) (.nil))) (.nil)))) [.ret (.bin .add (.sl (.var 1) (.noE) (.var 3)) (.tup (.cons (.bin .add (.idx (.var 1) (.var 3)) (.con (.int 1))) (.nil))))] []], .ret (.con (.non))]⟩
def fdIsLeaf : Fd := ⟨2, 3, [.iff (.orr (.nt (.isin (.var 0) .tup)) (.orr (.cmp .ne (.bi .len (.cons (.var 0) (.nil))) (.con (.int 2))) (.nt (.isin (.idx (.var 0) (.con (.int 0))) .tup)))) [.ret (.con (.bl false))] [], .ret (.andd (.bi .all (.cons (.lc (.call 1 (.cons (.var 2) (.nil))) [2] (.nm 2) (.idx (.var 0) (.con (.int 0))) (.con (.bl true))) (.nil))) (.andd (.isin (.idx (.var 0) (.con (.int 1))) .str) (.cmp .eq (.var 0) (.var 1))))]⟩
def fdTreeHolds : Fd := ⟨3, 6, [.iff (.orr (.nt (.isin (.var 1) .tup)) (.cmp .gt (.bi .len (.cons (.var 1) (.nil))) (.con (.int 2000)))) [.ret (.con (.bl false))] [], .set 3 (.tup (.nil)), .forr (.nm 4) (.var 1) [.iff (.cmp .isN (.var 3) (.con (.non))) [.ret (.con (.bl false))] [], .set 5 (.call 172 (.cons (.var 0) (.cons (.var 3) (.cons (.var 2) (.nil))))), .iff (.nt (.call 174 (.cons (.var 4) (.cons (.var 5) (.nil))))) [.ret (.con (.bl false))] [], .set 3 (.call 173 (.cons (.var 0) (.cons (.idx (.var 5) (.con (.int 0))) (.nil))))], .ret (.cmp .isN (.var 3) (.con (.non)))]⟩
def fdCut : Fd := ⟨2, 2, [.ret (.idx (.meth (.var 0) 18 (.cons (.var 1) (.nil))) (.con (.int 4)))]⟩
def Why.s : Why → Str
  | .done => "done" | .round => "round" | .cut => "cut" | .non => "none"
def whyM : Option Why → MV
  | none => .non
  | some w => .str w.s
def optSt : Option (List Nat) → MV
  | none => .non
  | some st => .tup (st.map natM)
def leafM (l : Lf) : MV := .tup [.tup (l.1.map natM), .str l.2.s]
/-- just that leaf, kinds and all -/
def lf (x : MV) (l : Lf) : Bool := match x with
  | .tup [.tup ss, y] => ss.all MV.isI && y.isS && MV.eqv x (leafM l)
  | _ => false
def holdsF : List MV → List Lf → Bool
  | [], ls => ls.isEmpty
  | x :: xs, l :: ls => lf x l && holdsF xs ls
  | _ :: _, [] => false
def treeF (ls : List Lf) (v : MV) : Bool := match v with
  | .tup xs => decide (xs.length ≤ 2000) && holdsF xs ls
  | _ => false
structure okL (x : MV) : Prop where
  pl : x.pl = true
  sh : x.shp 58 = true
  s : ∀ ss y, x = .tup [.tup ss, y] → ss.length ≤ 1000 ∧ (∀ s ∈ ss, s.pl = true)
  t : ∀ a y, x = .tup [a, y] → a.pl = true ∧ y.pl = true
theorem gn6 (D : Dat) : getF (Fs D) 6 = none := rfl
theorem fr_why (o : Option Why) : (whyM o).frz = some (whyM o) := by cases o <;> rfl
theorem dr_why (o : Option Why) (M : Store) : (whyM o).dr M = whyM o := by cases o <;> rfl
theorem fr_opt2 (o : Option (List Nat)) : (optSt o).frz = some (optSt o) := by cases o <;> rfl
theorem dr_opt2 (o : Option (List Nat)) (M : Store) : (optSt o).dr M = optSt o := by cases o <;> rfl
theorem non_opt2 (o : Option (List Nat)) : (optSt o).isNon = o.isNone := by cases o <;> rfl
structure TbTr (T : Tab) : Prop extends TbA T where
  h161 : T.fn 161 = some fdWayOf
  h63 : T.fn 63 = some fdCut
  m6 : T.mt 3 6 = some 63
  h171 : T.fn 171 = some fdEndOf
  h172 : T.fn 172 = some fdLeafBehind
  h173 : T.fn 173 = some fdStepsBehind
  h174 : T.fn 174 = some fdIsLeaf
  h175 : T.fn 175 = some fdTreeHolds
  w : 2000 < T.W
section
variable {T : Tab} {d : Nat} {M : Store} {r : Nat} {D : Dat}
theorem cut_ok (t : TbD T) (h63 : T.fn 63 = some fdCut) (hk : Tk M r D) {k : Nat} {row : Row} (h : D.rows[k]? = some row) : evC T (d + 2) 63 [.ref r, stM k] M = .ok (.bl row.cut) M := by
  refine sat_eq (sat_call [some (.v (.ref r)), some (.v (stM k))] h63 rfl rfl ?_)
  have i4 : atM [nextsM row.nexts, .bl row.done, .int row.name, .int row.bound, .bl row.cut] 4 = some (.bl row.cut) := rfl
  simp_arith [fdCut, ins_r hk.ob, t.m18, gn18, Option.isNone_none, fr_st, row_ok t hk h, dr_row, i4]
  exact sat_ok ⟨rfl, rfl⟩
theorem waypth_ok (t : TbTr T) (hD : D.W) (hk : Tk M r D) {st way : List Nat} (hp : Pth D.rows st way) (hz : st.length ≤ 100) : evC T (d + 3) 161 [.ref r, .tup (st.map natM)] M = .ok (.tup (way.map stM)) M := by
  have hst := TK.start_ok (d := d + 1) (M := M) (v := .ref r) t.h4
  obtain ⟨p1, p2, p3⟩ := hp
  have hw0 : way.take (0 + 1) = [0] := by
    cases way with
    | nil => cases p2
    | cons a w => cases p2; rfl
  refine sat_eq (sat_call [some (.v (.ref r)), some (.v (.tup (st.map natM))), none, none] t.h161 rfl rfl ?_)
  simp only [fdWayOf]
  refine sat_next (ρ1 := [some (.v (.ref r)), some (.v (.tup (st.map natM))), some (.ol ((way.take (0 + 1)).map stM)), none]) (M1 := M) (by simp_arith [ins_r hk.ob, t.m11, gn11, Option.isNone_none, hst, fr_st, hw0]) ?_
  refine sat_fors (v := .tup (st.map natM)) (M1 := M) natM st (fun ys ρ M' => M' = M ∧ ∃ (i : Nat) (y3 : Option SV), ρ = [some (.v (.ref r)), some (.v (.tup (st.map natM))), some (.ol ((way.take (i + 1)).map stM)), y3] ∧ ys = st.drop i ∧ i ≤ st.length) (by simp_arith [evSs]) rfl ?_ ?_ ?_
  · exact ⟨rfl, 0, none, rfl, rfl, Nat.zero_le _⟩
  · rintro k ys ρ M' ⟨rfl, i, y3, rfl, hy, hi⟩
    have hik : st[i]? = some k := by
      have : (st.drop i)[0]? = some k := by rw [← hy]; rfl
      rwa [List.getElem?_drop, Nat.add_zero] at this
    have hil := (List.getElem?_eq_some_iff.mp hik).1
    obtain ⟨h, row, p, w1, w2, w3, w4⟩ := p3 i k hik
    have n1 := nexts_ok (d := d) (M := M') t.toTbD t.h57 t.h61 hD hk w2
    have e1 : way.take (i + 1) = way.take i ++ [h] := by rw [List.take_succ, w1]; rfl
    have al : atM ((way.take (i + 1)).map stM) (-1) = some (stM h) := by rw [e1, List.map_append]; exact at_last' _ _
    have a1 : atM (row.nexts.map stepM) (k : Int) = some (stepM p) := by rw [atM_map, w3]; rfl
    have ds : ∀ M, (stepM p).dr M = .tup [.int p.1, stM p.2] := fun _ => rfl
    have hz2 : ((way.take (i + 1)).map stM).length < SZ := by rw [List.length_map, List.length_take]; show _ < 16777216; omega
    have hpu : (way.take (i + 1)).map stM ++ [stM p.2] = (way.take (i + 1 + 1)).map stM := by rw [List.take_succ (i := i + 1), w4, List.map_append]; rfl
    refine ⟨[some (.v (.ref r)), some (.v (.tup (st.map natM))), some (.ol ((way.take (i + 1)).map stM)), some (.v (natM k))], rfl, ?_⟩
    refine sat_next (ρ1 := [some (.v (.ref r)), some (.v (.tup (st.map natM))), some (.ol ((way.take (i + 1 + 1)).map stM)), some (.v (natM k))]) (M1 := M') (by simp_arith [natM, ins_r hk.ob, t.m8, gn8, Option.isNone_none, al, fr_st, n1, dr_steps, a1, ds, hz2, hpu]) ?_
    exact sat_nil ⟨rfl, i + 1, _, rfl, by rw [← List.tail_drop, ← hy]; rfl, hil⟩
  · rintro ρ M' ⟨rfl, i, y3, rfl, hy, hi⟩
    have : i = st.length := by
      have := congrArg List.length hy
      rw [List.length_drop] at this
      simp at this; omega
    subst this
    rw [show way.take (st.length + 1) = way from List.take_of_length_le (by omega)]
    simp_arith [evSs]
    exact sat_ok ⟨rfl, rfl⟩
theorem endof_ok (t : TbTr T) (hD : D.W) (hk : Tk M r D) {pre : List Nat} {here : Nat} {row : Row} (h : D.rows[here]? = some row) (cuts : Bool) : evC T (d + 3) 171 [.ref r, .tup ((pre ++ [here]).map stM), .bl cuts] M = .ok (whyM (whyF cuts row (decide (here ∈ pre)))) M := by
  have al : atM ((pre ++ [here]).map stM) (-1) = some (stM here) := by rw [List.map_append]; exact at_last' _ _
  have ct : cutM ((pre ++ [here]).map stM) none (some (-1)) = pre.map stM := by rw [List.map_append]; exact cut_init _ _
  have d1 := done_ok (d := d) (M := M) t.toTbD t.h163 hk h
  have c1 := cut_ok (d := d) (M := M) t.toTbD t.h63 hk h
  have n1 := nexts_ok (d := d) (M := M) t.toTbD t.h57 t.h61 hD hk h
  have in1 : cmpM .inn (.tup [.int (here : Int)]) (.tup (pre.map stM)) = some (decide (here ∈ pre)) := in_stT here pre
  have en : cmpM .eq (.tup (row.nexts.map stepM)) (.tup []) = some row.nexts.isEmpty := by
    rw [eq_nilT (by intro x hx; obtain ⟨p, _, rfl⟩ := List.mem_map.mp hx; rfl)]
    cases row.nexts <;> rfl
  refine sat_eq (sat_call [some (.v (.ref r)), some (.v (.tup ((pre ++ [here]).map stM))), some (.v (.bl cuts)), none] t.h171 rfl rfl ?_)
  simp only [fdEndOf]
  refine sat_next (by simp_arith [al, fr_st]; first | done | exact rfl) ?_
  cases hd : row.done with
  | true =>
    rw [hd] at d1
    simp_arith [ins_r hk.ob, t.m3, gn3, Option.isNone_none, fr_st, d1]
    refine sat_ok ?_
    exact ⟨by simp [whyF, hd, whyM, Why.s, MV.out], rfl⟩
  | false =>
    rw [hd] at d1
    refine sat_next (by simp_arith [ins_r hk.ob, t.m3, gn3, Option.isNone_none, fr_st, d1]; first | done | exact rfl) ?_
    cases hi : decide (here ∈ pre) with
    | true =>
      rw [hi] at in1
      simp_arith [ct, dr_st, in1]
      exact sat_ok ⟨by simp [whyF, hd, whyM, Why.s, MV.out], rfl⟩
    | false =>
      rw [hi] at in1
      refine sat_next (by simp_arith [ct, dr_st, in1]; first | done | exact rfl) ?_
      cases cuts with
      | true =>
        cases hc : row.cut with
        | true =>
          rw [hc] at c1
          simp_arith [ins_r hk.ob, t.m6, gn6, Option.isNone_none, fr_st, c1]
          exact sat_ok ⟨by simp [whyF, hd, hc, whyM, Why.s, MV.out], rfl⟩
        | false =>
          rw [hc] at c1
          refine sat_next (by simp_arith [ins_r hk.ob, t.m6, gn6, Option.isNone_none, fr_st, c1]; first | done | exact rfl) ?_
          cases he : row.nexts.isEmpty with
          | true =>
            rw [he] at en
            simp_arith [ins_r hk.ob, t.m8, gn8, Option.isNone_none, fr_st, n1, dr_steps, en]
            exact sat_ok ⟨by simp [whyF, hd, hc, he, whyM, Why.s, MV.out], rfl⟩
          | false =>
            rw [he] at en
            simp_arith [ins_r hk.ob, t.m8, gn8, Option.isNone_none, fr_st, n1, dr_steps, en]
            exact sat_ok ⟨by simp [whyF, hd, hc, he, whyM, Why.s, MV.out], rfl⟩
      | false =>
        refine sat_next (by simp_arith [evSs]; first | done | exact rfl) ?_
        cases he : row.nexts.isEmpty with
        | true =>
          rw [he] at en
          simp_arith [ins_r hk.ob, t.m8, gn8, Option.isNone_none, fr_st, n1, dr_steps, en]
          exact sat_ok ⟨by simp [whyF, hd, he, whyM, Why.s, MV.out], rfl⟩
        | false =>
          rw [he] at en
          simp_arith [ins_r hk.ob, t.m8, gn8, Option.isNone_none, fr_st, n1, dr_steps, en]
          exact sat_ok ⟨by simp [whyF, hd, he, whyM, Why.s, MV.out], rfl⟩
end
end TK
end Q

/-! FcC: trees: leaves in order, the judge. -/
namespace Q
open PySem
local macro_rules
  | `(tactic| simp_arith [$as,*]) => `(tactic| simp only [$as,*, evSs, evS, evT, evF, evE, evFs, evEs, evO, rb, ro, get0, getS, dr_int, dr_lst, dr_bl, dr_tup, dr_non, dr_str, t_bl, fr_int, fr_bl, fr_str, fr_non, fr_tup, fr_nw, fr_fz, fr_ro, fr_ref, ou_int, ou_bl, ou_tup, ou_nw, ou_fz, ou_bw, ou_ref, ou_non, ou_str, ix_l, ix_t, b_add, b_sub, l_len, l_lent, atM_0, atM_1, atM_2, List.getElem?_cons_zero, List.getElem?_cons_succ, List.length_cons, List.length_nil, List.replicate, List.cons_append, List.nil_append, if_true, Bool.false_eq_true, map1, map2, if_false, szif (Nat.zero_le _), nx_s, so_l, so_d, sv_, bg_, get0o, l_abs, c_ge, c_lt, c_gt, c_le, sl_l, sl_t, it_f, it_t, bi_abs, bi_len, List.set_cons_zero, List.set_cons_succ, Nat.reduceAdd, Nat.reduceLT, Option.map_some, szif (by decide : 1 ≤ 16777216), szif (by decide : 2 ≤ 16777216), szif (by decide : 3 ≤ 16777216), szif (by decide : 4 ≤ 16777216), szif (by decide : 5 ≤ 16777216), szif (by decide : 6 ≤ 16777216), szif (by decide : 7 ≤ 16777216), szif (by decide : 8 ≤ 16777216), szif (by decide : 9 ≤ 16777216), bnd, sq_l, sq_t, wp_n, wp_c, bi_tuple, l_tpl, l_tpt])
namespace TK
theorem map_snoc0 (st : List Nat) : st.map natM ++ [.int 0] = (st ++ [0]).map natM := by rw [List.map_append]; rfl
theorem map_snocS (ws : List Nat) (j : Nat) : ws.map stM ++ [stM j] = (ws ++ [j]).map stM := by rw [List.map_append]; rfl
theorem c_isNQ2 (v : MV) : cmpM .isN v .non = some v.isNon := rfl
section
variable {T : Tab} {d : Nat} {M : Store} {r : Nat} {D : Dat} {x : Nd} {P : List Nd} {cuts : Bool}
theorem leaf_ok (t : TbTr T) (hD : D.W) (hc : ∀ r ∈ D.rows, ∀ p ∈ r.nexts, p.2 < D.rows.length) (hk : Tk M r D) (z : Zp D.rows cuts x P) :
    (evC T (d + 4) 172 [.ref r, .tup (x.st.map natM), .bl cuts] M).Sat fun v M' => M' = M ∧ ∃ (y : Nd) (w : Why) (Q : List Nd), v = leafM (y.st, w) ∧ Zp D.rows cuts y Q ∧ lvP D.rows cuts (x :: P) = (y.st, w) :: lvP D.rows cuts Q := by
  have h0 := hD.l.1
  have hl := hD.l.2
  have okx := z.ok h0 hc
  have lx := nodup_len okx.1.nd okx.1.lt
  have w1 := waypth_ok (d := d) (M := M) t hD hk z.pth (by rw [okx.1.len]; omega)
  obtain ⟨row, hr⟩ : ∃ row, D.rows[x.here]? = some row := ⟨_, List.getElem?_eq_getElem okx.1.h⟩
  have w2 := endof_ok (d := d) (M := M) (pre := x.pre) t hD hk hr cuts
  refine sat_call [some (.v (.ref r)), some (.v (.tup (x.st.map natM))), some (.v (.bl cuts)), none, none] t.h172 rfl rfl ?_
  simp only [fdLeafBehind]
  refine sat_next (ρ1 := [some (.v (.ref r)), some (.v (.tup (x.st.map natM))), some (.v (.bl cuts)), some (.v (.tup ((x.pre ++ [x.here]).map stM))), none]) (M1 := M) (by simp_arith [w1]) ?_
  refine sat_next (ρ1 := [some (.v (.ref r)), some (.v (.tup (x.st.map natM))), some (.v (.bl cuts)), some (.v (.tup ((x.pre ++ [x.here]).map stM))), some (.v (whyM (whyF cuts row (decide (x.here ∈ x.pre)))))]) (M1 := M) (by simp_arith [w2, fr_why]) ?_
  refine sat_whls (fun m ρ M' => M' = M ∧ ∃ (y : Nd) (Q : List Nd) (row : Row), Zp D.rows cuts y Q ∧ D.rows[y.here]? = some row ∧ lvP D.rows cuts (x :: P) = lvP D.rows cuts (y :: Q) ∧ ρ = [some (.v (.ref r)), some (.v (.tup (y.st.map natM))), some (.v (.bl cuts)), some (.v (.tup ((y.pre ++ [y.here]).map stM))), some (.v (whyM (whyF cuts row (decide (y.here ∈ y.pre)))))] ∧ m + y.pre.length = D.rows.length + 1) (m := D.rows.length + 1 - x.pre.length) (by have := t.w; omega) ⟨rfl, x, P, row, z, hr, rfl, rfl, by omega⟩ ?_
  rintro m ρ M' ⟨rfl, y, Q, row, zy, hry, e, rfl, hm⟩
  have oky := zy.ok h0 hc
  have ly := nodup_len oky.1.nd oky.1.lt
  cases hw : whyF cuts row (decide (y.here ∈ y.pre)) with
  | some w =>
    refine ⟨false, by simp_arith [dr_why, whyM, c_isNQ2, MV.isNon], nofun, fun _ => ?_⟩
    have eo : (leafM (y.st, w)).out = leafM (y.st, w) := rfl
    simp_arith [whyM]
    refine sat_ok ⟨rfl, y, w, Q, rfl, zy, ?_⟩
    rw [e, lvP_cons, lv_leaf oky.1 hry hw]
    rfl
  | none =>
    refine ⟨true, by simp_arith [whyM, c_isNQ2, MV.isNon], fun _ => ⟨by omega, ?_⟩, nofun⟩
    obtain ⟨c, j, ps, R, hn, z2, e2⟩ := zy.down h0 hc hry hw
    have ok2 := z2.ok h0 hc
    obtain ⟨row2, hr2⟩ : ∃ row2, D.rows[j]? = some row2 := ⟨_, List.getElem?_eq_getElem ok2.1.h⟩
    have n1 := nexts_ok (d := d + 1) (M := M') t.toTbD t.h57 t.h61 hD hk hry
    have al : atM ((y.pre ++ [y.here]).map stM) (-1) = some (stM y.here) := by rw [List.map_append]; exact at_last' _ _
    have a1 : atM (row.nexts.map stepM) 0 = some (.tup [.int c, stM j]) := by rw [hn]; rfl
    have b1 := b_addT (xs := y.st.map natM) (ys := [.int 0]) (by rw [List.length_map, List.length_singleton, oky.1.len]; show _ ≤ 16777216; omega)
    have b2 := b_addT (xs := (y.pre ++ [y.here]).map stM) (ys := [stM j]) (by rw [List.length_map, List.length_append, List.length_singleton, List.length_singleton]; show _ ≤ 16777216; omega)
    rw [map_snoc0] at b1
    rw [map_snocS] at b2
    have w3 := endof_ok (d := d) (M := M') (pre := y.pre ++ [y.here]) t hD hk hr2 cuts
    refine sat_next (ρ1 := [some (.v (.ref r)), some (.v (.tup ((y.st ++ [0]).map natM))), some (.v (.bl cuts)), some (.v (.tup ((y.pre ++ [y.here]).map stM))), some (.v (whyM none))]) (M1 := M') (by simp_arith [b1]) ?_
    refine sat_next (ρ1 := [some (.v (.ref r)), some (.v (.tup ((y.st ++ [0]).map natM))), some (.v (.bl cuts)), some (.v (.tup ((y.pre ++ [y.here] ++ [j]).map stM))), some (.v (whyM none))]) (M1 := M') (by simp_arith [ins_r hk.ob, t.m8, gn8, Option.isNone_none, al, fr_st, n1, dr_steps, a1, b2]) ?_
    refine sat_next (ρ1 := [some (.v (.ref r)), some (.v (.tup ((y.st ++ [0]).map natM))), some (.v (.bl cuts)), some (.v (.tup ((y.pre ++ [y.here] ++ [j]).map stM))), some (.v (whyM (whyF cuts row2 (decide (j ∈ y.pre ++ [y.here])))))]) (M1 := M') (by simp_arith [w3, fr_why]) ?_
    exact sat_nil ⟨rfl, _, R ++ Q, row2, z2, hr2, e.trans e2, rfl, by show m - 1 + (y.pre ++ [y.here]).length = _; rw [List.length_append, List.length_singleton]; omega⟩
theorem behind_ok (t : TbTr T) (hD : D.W) (hk : Tk M r D) {st pre : List Nat} {here : Nat} (hp : Pth D.rows st (pre ++ [here])) (hz : st.length ≤ 100) : evC T (d + 4) 173 [.ref r, .tup (st.map natM)] M = .ok (optSt (sbF D.rows st pre st.length)) M := by
  have w1 := waypth_ok (d := d) (M := M) t hD hk hp hz
  have hl : pre.length = st.length := by have := hp.1; rw [List.length_append, List.length_singleton] at this; omega
  obtain ⟨ni, eni⟩ : ∃ ni : Int, ni = (st.length : Int) := ⟨_, rfl⟩
  have hni : ((st.map natM).length : Int) = ni := by rw [List.length_map, eni]
  refine sat_eq (sat_call [some (.v (.ref r)), some (.v (.tup (st.map natM))), none, none] t.h173 rfl rfl ?_)
  simp only [fdStepsBehind]
  refine sat_next (ρ1 := [some (.v (.ref r)), some (.v (.tup (st.map natM))), some (.v (.tup ((pre ++ [here]).map stM))), none]) (M1 := M) (by simp_arith [w1]) ?_
  refine sat_fors (v := .lst .fz (rangeD (ni - 1) (-1))) (M1 := M) natM (List.range st.length).reverse (fun ys ρ M' => M' = M ∧ ∃ (a : Nat) (y3 : Option SV), ρ = [some (.v (.ref r)), some (.v (.tup (st.map natM))), some (.v (.tup ((pre ++ [here]).map stM))), y3] ∧ ys = (List.range a).reverse ∧ a ≤ st.length ∧ sbF D.rows st pre st.length = sbF D.rows st pre a) (by simp_arith [hni, bi_r3Q, l_r3 (ni - 1) (by omega)]) (by rw [eni, rangeD_nat]; rfl) ?_ ?_ ?_
  · exact ⟨rfl, st.length, none, rfl, rfl, Nat.le_refl _, rfl⟩
  · rintro k ys ρ M' ⟨rfl, a, y3, rfl, hy, ha, e⟩
    cases a with
    | zero => cases hy
    | succ a =>
      rw [List.range_succ, List.reverse_append] at hy
      injection hy with hk' hy
      subst hk'
      have ha' : k < st.length := by omega
      obtain ⟨s, hs⟩ : ∃ s, st[k]? = some s := ⟨_, List.getElem?_eq_getElem ha'⟩
      obtain ⟨h, row, p, p1, p2, p3, p4⟩ := hp.2.2 k s hs
      have p1' : pre[k]? = some h := by rw [List.getElem?_append_left (by omega)] at p1; exact p1
      have n1 := nexts_ok (d := d + 1) (M := M') t.toTbD t.h57 t.h61 hD hk p2
      have a1 : atM ((pre ++ [here]).map stM) (k : Int) = some (stM h) := by rw [atM_map, p1]; rfl
      have a2 : atM (st.map natM) (k : Int) = some (.int (s : Int)) := by rw [atM_map, hs]; rfl
      obtain ⟨li, eli⟩ : ∃ li : Int, li = (row.nexts.length : Int) := ⟨_, rfl⟩
      have hli : ((row.nexts.map stepM).length : Int) = li := by rw [List.length_map, eli]
      have es : sbF D.rows st pre (k + 1) = if s + 1 < row.nexts.length then some (st.take k ++ [s + 1]) else sbF D.rows st pre k := by simp only [sbF, hs, p1', p2]
      rw [es] at e
      obtain ⟨ki, eki⟩ : ∃ ki : Int, ki = (k : Int) := ⟨_, rfl⟩
      rw [← eki] at a1 a2
      refine ⟨[some (.v (.ref r)), some (.v (.tup (st.map natM))), some (.v (.tup ((pre ++ [here]).map stM))), some (.v (.int ki))], by rw [eki]; rfl, ?_⟩
      by_cases c : s + 1 < row.nexts.length
      · rw [if_pos c] at e
        have ct : cutM (st.map natM) none (some ki) = (st.take k).map natM := by rw [cutt' _ eki, List.map_take]
        have b1 := b_addT (xs := (st.take k).map natM) (ys := [.int ((s : Int) + 1)]) (by rw [List.length_map, List.length_take, List.length_singleton]; show _ ≤ 16777216; omega)
        have eb : (st.take k).map natM ++ [.int ((s : Int) + 1)] = (st.take k ++ [s + 1]).map natM := by rw [List.map_append]; rfl
        rw [eb] at b1
        simp_arith [a2, ins_r hk.ob, t.m8, gn8, Option.isNone_none, a1, fr_st, n1, dr_steps, hli, decide_eq_true (show (s : Int) + 1 < li by omega), ct, b1]
        exact sat_ok ⟨by rw [e]; rfl, rfl⟩
      · rw [if_neg c] at e
        simp_arith [a2, ins_r hk.ob, t.m8, gn8, Option.isNone_none, a1, fr_st, n1, dr_steps, hli, decide_eq_false (show ¬ (s : Int) + 1 < li by omega)]
        exact sat_ok ⟨rfl, k, _, rfl, by simpa using hy, by omega, e⟩
  · rintro ρ M' ⟨rfl, a, y3, rfl, hy, ha, e⟩
    have : a = 0 := by
      have := congrArg List.length hy
      simp at this; omega
    subst this
    simp_arith [evSs]
    exact sat_ok ⟨by rw [e]; rfl, rfl⟩
end
end TK
end Q

/-! FcD: trees: the judge. -/
namespace Q
open PySem
local macro_rules
  | `(tactic| simp_arith [$as,*]) => `(tactic| simp only [$as,*, evSs, evS, evT, evF, evE, evFs, evEs, evO, rb, ro, get0, getS, dr_int, dr_lst, dr_bl, dr_tup, dr_non, dr_str, t_bl, fr_int, fr_bl, fr_str, fr_non, fr_tup, fr_nw, fr_fz, fr_ro, fr_ref, ou_int, ou_bl, ou_tup, ou_nw, ou_fz, ou_bw, ou_ref, ou_non, ou_str, ix_l, ix_t, b_add, b_sub, l_len, l_lent, atM_0, atM_1, atM_2, List.getElem?_cons_zero, List.getElem?_cons_succ, List.length_cons, List.length_nil, List.replicate, List.cons_append, List.nil_append, if_true, Bool.false_eq_true, map1, map2, if_false, szif (Nat.zero_le _), nx_s, so_l, so_d, sv_, bg_, get0o, l_abs, c_ge, c_lt, c_gt, c_le, sl_l, sl_t, it_f, it_t, bi_abs, bi_len, List.set_cons_zero, List.set_cons_succ, Nat.reduceAdd, Nat.reduceLT, Option.map_some, szif (by decide : 1 ≤ 16777216), szif (by decide : 2 ≤ 16777216), szif (by decide : 3 ≤ 16777216), szif (by decide : 4 ≤ 16777216), szif (by decide : 5 ≤ 16777216), szif (by decide : 6 ≤ 16777216), szif (by decide : 7 ≤ 16777216), szif (by decide : 8 ≤ 16777216), szif (by decide : 9 ≤ 16777216), bnd, sq_l, sq_t, wp_n, wp_c, bi_tuple, l_tpl, l_tpt])
theorem ty_str {T : Tab} {M : Store} {v : MV} (h : v.pl = true) : isTy T M v .str = some v.isS := by
  cases v with
  | lst k xs => cases k <;> first | rfl | cases h
  | dct k t xs => cases k <;> first | rfl | cases h
  | st k xs => cases h
  | ref n => cases h
  | _ => rfl
theorem c_eqS {a b : MV} (ha : a.shp 60 = true) (hb : b.shp 60 = true) : cmpM .eq a b = some (a.eqv b) := by
  show (if a.shp 60 && b.shp 60 then some (a.eqv b) else _) = _
  rw [ha, hb]; rfl
theorem c_neS {a b : MV} (ha : a.shp 60 = true) (hb : b.shp 60 = true) : cmpM .ne a b = some (!a.eqv b) := by
  show (if a.shp 60 && b.shp 60 then some (!a.eqv b) else _) = _
  rw [ha, hb]; rfl
namespace TK
theorem shp_leaf (l : Lf) : (leafM l).shp 60 = true := by
  show ((MV.tup (l.1.map natM)).shp 59 && ((MV.str l.2.s).shp 59 && true)) = true
  rw [show (MV.tup (l.1.map natM)).shp 59 = true from by
    show (l.1.map natM).all (MV.shp 58) = true
    rw [List.all_eq_true]; intro x hx; obtain ⟨k, _, rfl⟩ := List.mem_map.mp hx; rfl]
  cases l.2 <;> decide +kernel
theorem okL.sh60 {x : MV} (h : okL x) : x.shp 60 = true := shp_mono (shp_mono h.sh)
theorem lf_not {x : MV} {l : Lf} (h : ∀ ss y, x ≠ .tup [.tup ss, y]) : lf x l = false := by
  unfold lf
  split
  · rename_i ss y; exact absurd rfl (h ss y)
  · rfl
section
variable {T : Tab} {d : Nat} {M : Store} {r : Nat} {D : Dat} {x : Nd} {P : List Nd} {cuts : Bool}
theorem isleaf_ok (t : TbTr T) {x : MV} (hx : okL x) (l : Lf) : evC T (d + 2) 174 [x, leafM l] M = .ok (.bl (lf x l)) M := by
  refine sat_eq (sat_call [some (.v (x)), some (.v (leafM l)), none] t.h174 rfl rfl ?_)
  have ec := c_eqS hx.sh60 (shp_leaf l)
  have dx : ∀ M, (MV.tup [.tup (l.1.map natM), .str l.2.s]).dr M = leafM l := fun _ => rfl
  match x, hx with
  | .tup [], hx =>
    rw [lf_not (by intro ss z e; cases e)]
    simp_arith [fdIsLeaf, ty_tt, c_nei, Bool.not_true, show ((((0 : Nat) : Int) == 2)) = false from rfl, Bool.not_false]
    exact sat_ok ⟨rfl, rfl⟩
  | .tup [a], hx =>
    rw [lf_not (by intro ss z e; cases e)]
    simp_arith [fdIsLeaf, ty_tt, c_nei, Bool.not_true, show ((((([] : List MV).length + 1 : Nat)) : Int) == 2) = false from rfl, Bool.not_false]
    exact sat_ok ⟨rfl, rfl⟩
  | .tup (a :: b :: c :: xs), hx =>
    rw [lf_not (by intro ss z e; cases e)]
    obtain ⟨li, eli⟩ : ∃ li : Int, li = ((xs.length + 1 + 1 + 1 : Nat) : Int) := ⟨_, rfl⟩
    simp_arith [fdIsLeaf, ty_tt, c_nei, Bool.not_true, ← eli, show (li == 2) = false from beq_eq_false_iff_ne.mpr (by omega), Bool.not_false]
    exact sat_ok ⟨rfl, rfl⟩
  | .tup [a, y], hx =>
    have hay := hx.t a y rfl
    have n2 : ((((([] : List MV).length + 1 + 1 : Nat) : Int)) == 2) = true := rfl
    cases ha : a.isT with
    | false =>
      rw [lf_not (by intro ss z e; cases e; cases ha)]
      simp_arith [fdIsLeaf, ty_tt, c_nei, Bool.not_true, n2, pl_frz hay.1, ty_tup hay.1, ha, Bool.not_false]
      exact sat_ok ⟨rfl, rfl⟩
    | true =>
      obtain ⟨ss, rfl⟩ : ∃ ss, a = .tup ss := by cases a <;> first | exact ⟨_, rfl⟩ | cases ha
      obtain ⟨hl, hs⟩ := hx.s ss y rfl
      simp only [fdIsLeaf]
      refine sat_next (by simp_arith [ty_tt, c_nei, Bool.not_true, n2]; first | done | exact rfl) ?_
      simp_arith [evSs]
      rw [lc_pure (fun s => some (.bl s.isI)) ?_ (by show 0 + ss.length ≤ 16777216; omega)]
      · have el : lf (.tup [.tup ss, y]) l = (ss.all MV.isI && y.isS && MV.eqv (.tup [.tup ss, y]) (leafM l)) := rfl
        rw [el]
        cases h1 : ss.all MV.isI with
        | false =>
          simp_arith [List.nil_append, K13.fm_some, l_all, bi_all, h1, Bool.false_and]
          exact sat_ok ⟨rfl, rfl⟩
        | true =>
          cases h2 : y.isS with
          | false =>
            simp_arith [List.nil_append, K13.fm_some, l_all, bi_all, h1, ty_str hay.2, h2, Bool.and_false, Bool.false_and]
            exact sat_ok ⟨rfl, rfl⟩
          | true =>
            unfold leafM at ec
            simp_arith [List.nil_append, K13.fm_some, l_all, bi_all, h1, ty_str hay.2, h2, leafM, ec]
            exact sat_ok ⟨rfl, rfl⟩
      · intro s hs'
        simp_arith [pl_frz (hs s hs'), whole_any t.h1 (hs s hs')]
  | .non, hx => rw [lf_not (by intro ss z e; cases e)]; simp_arith [fdIsLeaf, ty_tup hx.pl, MV.isT, Bool.not_false]; exact sat_ok ⟨rfl, rfl⟩
  | .bl b, hx => rw [lf_not (by intro ss z e; cases e)]; simp_arith [fdIsLeaf, ty_tup hx.pl, MV.isT, Bool.not_false]; exact sat_ok ⟨rfl, rfl⟩
  | .int b, hx => rw [lf_not (by intro ss z e; cases e)]; simp_arith [fdIsLeaf, ty_tup hx.pl, MV.isT, Bool.not_false]; exact sat_ok ⟨rfl, rfl⟩
  | .str b, hx => rw [lf_not (by intro ss z e; cases e)]; simp_arith [fdIsLeaf, ty_tup hx.pl, MV.isT, Bool.not_false]; exact sat_ok ⟨rfl, rfl⟩
  | .lst k b, hx => rw [lf_not (by intro ss z e; cases e)]; simp_arith [fdIsLeaf, ty_tup hx.pl, MV.isT, Bool.not_false]; exact sat_ok ⟨rfl, rfl⟩
  | .dct k t b, hx => rw [lf_not (by intro ss z e; cases e)]; simp_arith [fdIsLeaf, ty_tup hx.pl, MV.isT, Bool.not_false]; exact sat_ok ⟨rfl, rfl⟩
  | .st k b, hx => exact absurd hx.pl (by intro e; cases e)
  | .ref k, hx => exact absurd hx.pl (by intro e; cases e)
def hd2 : List Nd → Option (Nd × List Nd)
  | [] => none
  | q :: Q => some (q, Q)
/-- what is left: a node with what waits, or nothing -/
def lvO (rs : List Row) (cuts : Bool) : Option (Nd × List Nd) → List Lf
  | none => []
  | some p => lvP rs cuts (p.1 :: p.2)
theorem tree_ok (t : TbTr T) (hD : D.W) (hc : ∀ r ∈ D.rows, ∀ p ∈ r.nexts, p.2 < D.rows.length) (hk : Tk M r D) {v : MV} (hv : v.pl = true) (hv2 : ∀ xs, v = .tup xs → xs.length ≤ 1000000 ∧ ∀ x ∈ xs, okL x) : evC T (d + 5) 175 [.ref r, v, .bl cuts] M = .ok (.bl (treeF (lv D.rows cuts ⟨[], [], 0⟩) v)) M := by
  have h0 := hD.l.1
  refine sat_eq (sat_call [some (.v (.ref r)), some (.v (v)), some (.v (.bl cuts)), none, none, none] t.h175 rfl rfl ?_)
  cases ht : v.isT with
  | false =>
    have e : treeF (lv D.rows cuts ⟨[], [], 0⟩) v = false := by cases v <;> first | rfl | cases ht
    simp_arith [fdTreeHolds, ty_tup hv, ht, e, Bool.not_false]
    exact sat_ok ⟨rfl, rfl⟩
  | true =>
    obtain ⟨xs, rfl⟩ : ∃ xs, v = .tup xs := by cases v <;> first | exact ⟨_, rfl⟩ | cases ht
    obtain ⟨hz, hx⟩ := hv2 xs rfl
    have et : treeF (lv D.rows cuts ⟨[], [], 0⟩) (.tup xs) = (decide (xs.length ≤ 2000) && holdsF xs (lv D.rows cuts ⟨[], [], 0⟩)) := rfl
    rw [et]
    by_cases h2 : xs.length ≤ 2000
    · rw [decide_eq_true h2, Bool.true_and]
      simp only [fdTreeHolds]
      refine sat_next (ρ1 := [some (.v (.ref r)), some (.v (.tup xs)), some (.v (.bl cuts)), none, none, none]) (M1 := M) (by simp_arith [ty_tt, Bool.not_true, decide_eq_false (show ¬ (2000 : Int) < (xs.length : Int) by omega)]) ?_
      refine sat_next (ρ1 := [some (.v (.ref r)), some (.v (.tup xs)), some (.v (.bl cuts)), some (.v (optSt (some []))), none, none]) (M1 := M) (by simp_arith [evSs]; rfl) ?_
      refine sat_fors (v := .tup xs) (M1 := M) id xs (fun ys ρ M' => M' = M ∧ ∃ (s : Option (Nd × List Nd)) (y4 y5 : Option SV), ρ = [some (.v (.ref r)), some (.v (.tup xs)), some (.v (.bl cuts)), some (.v (optSt (s.map fun p => p.1.st))), y4, y5] ∧ (∀ p, s = some p → Zp D.rows cuts p.1 p.2) ∧ (∀ y ∈ ys, okL y) ∧ holdsF xs (lv D.rows cuts ⟨[], [], 0⟩) = holdsF ys (lvO D.rows cuts s)) (by simp_arith [evSs]) (by rw [List.map_id]; rfl) ?_ ?_ ?_
      · refine ⟨rfl, some (⟨[], [], 0⟩, []), none, none, rfl, fun p e => by cases e; exact .root, hx, ?_⟩
        show _ = holdsF xs (lvP D.rows cuts [⟨[], [], 0⟩])
        rw [lvP_cons]
        show _ = holdsF xs (_ ++ [])
        rw [List.append_nil]
      · rintro y ys ρ M' ⟨rfl, s, y4, y5, rfl, hs, hy, e⟩
        have hyo := hy y (List.mem_cons_self ..)
        refine ⟨[some (.v (.ref r)), some (.v (.tup xs)), some (.v (.bl cuts)), some (.v (optSt (s.map fun p => p.1.st))), some (.v (y)), y5], rfl, ?_⟩
        cases s with
        | none =>
          simp_arith [dr_opt2, c_isNQ2, non_opt2, Option.map_none, Option.isNone_none]
          exact sat_ok ⟨by rw [e]; rfl, rfl⟩
        | some p =>
          obtain ⟨x, P⟩ := p
          have zx := hs _ rfl
          obtain ⟨_, M2, el, rfl, z, w, Q, rfl, zz, ez⟩ := leaf_ok (d := d) (M := M') t hD hc hk zx
          have e : holdsF xs (lv D.rows cuts ⟨[], [], 0⟩) = holdsF (y :: ys) (lvP D.rows cuts (x :: P)) := e
          rw [ez] at e
          have e : holdsF xs (lv D.rows cuts ⟨[], [], 0⟩) = (lf y (z.st, w) && holdsF ys (lvP D.rows cuts Q)) := e
          have il := isleaf_ok (d := d + 2) (M := M2) t hyo (z.st, w)
          have fl : (leafM (z.st, w)).frz = some (leafM (z.st, w)) := rfl
          refine sat_next (by simp_arith [optSt, dr_tup, c_isNQ2, MV.isNon, Option.map_some]; first | done | exact rfl) ?_
          refine sat_next (ρ1 := [some (.v (.ref r)), some (.v (.tup xs)), some (.v (.bl cuts)), some (.v (optSt (some x.st))), some (.v (y)), some (.v (leafM (z.st, w)))]) (M1 := M2) (by simp_arith [optSt, Option.map_some, el, fl]) ?_
          cases hl : lf y (z.st, w) with
          | false =>
            rw [hl] at il e
            simp_arith [pl_frz hyo.pl, fl, il, Bool.not_false]
            exact sat_ok ⟨by rw [e]; rfl, rfl⟩
          | true =>
            rw [hl] at il e
            have okz := zz.ok h0 hc
            have lz := nodup_len okz.1.nd okz.1.lt
            have bh := behind_ok (d := d) (M := M2) t hD hk zz.pth (by have := hD.l.2; rw [okz.1.len]; omega)
            rw [zz.sb h0 hc] at bh
            have i0 : idxM (leafM (z.st, w)) (.int 0) = some (.tup (z.st.map natM)) := rfl
            have dl : ∀ M, (leafM (z.st, w)).dr M = leafM (z.st, w) := fun _ => rfl
            refine sat_next (ρ1 := [some (.v (.ref r)), some (.v (.tup xs)), some (.v (.bl cuts)), some (.v (optSt (some x.st))), some (.v (y)), some (.v (leafM (z.st, w)))]) (M1 := M2) (by simp_arith [pl_frz hyo.pl, fl, il, Bool.not_true]) ?_
            refine sat_next (ρ1 := [some (.v (.ref r)), some (.v (.tup xs)), some (.v (.bl cuts)), some (.v (optSt (Q.head?.map Nd.st))), some (.v (y)), some (.v (leafM (z.st, w)))]) (M1 := M2) (by simp_arith [dl, i0, bh, fr_opt2]) ?_
            refine sat_nil ⟨rfl, hd2 Q, some (.v y), some (.v (leafM (z.st, w))), ?_, ?_, fun y h => hy y (List.mem_cons_of_mem _ h), ?_⟩
            · cases Q <;> rfl
            · intro p hp
              cases Q with
              | nil => cases hp
              | cons q Q' => cases hp; exact zz.next
            · rw [e, Bool.true_and]
              cases Q <;> rfl
      · rintro ρ M' ⟨rfl, s, y4, y5, rfl, hs, _, e⟩
        simp_arith [dr_opt2, c_isNQ2, non_opt2]
        refine sat_ok ⟨?_, rfl⟩
        rw [e]
        cases s with
        | none => rfl
        | some p =>
          show MV.out (.bl false) = .bl (lvP D.rows cuts (p.1 :: p.2)).isEmpty
          have ne := lv_ne h0 hc _ (hs p rfl) (Nat.le_refl _)
          rw [lvP_cons]
          cases hl : lv D.rows cuts p.1 with
          | nil => exact absurd hl ne
          | cons a b => rfl
    · rw [decide_eq_false h2, Bool.false_and]
      simp_arith [fdTreeHolds, ty_tt, Bool.not_true, decide_eq_true (show (2000 : Int) < (xs.length : Int) by omega)]
      exact sat_ok ⟨rfl, rfl⟩
end
end TK
end Q

/-! FcE: trees: the law's leaves. -/
namespace Q
open PySem
local macro_rules
  | `(tactic| simp_arith [$as,*]) => `(tactic| simp only [$as,*, evSs, evS, evT, evF, evE, evFs, evEs, evO, rb, ro, get0, getS, dr_int, dr_lst, dr_bl, dr_tup, dr_non, dr_str, t_bl, fr_int, fr_bl, fr_str, fr_non, fr_tup, fr_nw, fr_fz, fr_ro, fr_ref, ou_int, ou_bl, ou_tup, ou_nw, ou_fz, ou_bw, ou_ref, ou_non, ou_str, ix_l, ix_t, b_add, b_sub, l_len, l_lent, atM_0, atM_1, atM_2, List.getElem?_cons_zero, List.getElem?_cons_succ, List.length_cons, List.length_nil, List.replicate, List.cons_append, List.nil_append, if_true, Bool.false_eq_true, map1, map2, if_false, szif (Nat.zero_le _), nx_s, so_l, so_d, sv_, bg_, get0o, l_abs, c_ge, c_lt, c_gt, c_le, sl_l, sl_t, it_f, it_t, bi_abs, bi_len, List.set_cons_zero, List.set_cons_succ, Nat.reduceAdd, Nat.reduceLT, Option.map_some, szif (by decide : 1 ≤ 16777216), szif (by decide : 2 ≤ 16777216), szif (by decide : 3 ≤ 16777216), szif (by decide : 4 ≤ 16777216), szif (by decide : 5 ≤ 16777216), szif (by decide : 6 ≤ 16777216), szif (by decide : 7 ≤ 16777216), szif (by decide : 8 ≤ 16777216), szif (by decide : 9 ≤ 16777216), bnd, sq_l, sq_t, wp_n, wp_c, bi_tuple, l_tpl, l_tpt])
theorem ne_nilA (k l : Kd) (xs : List MV) : cmpM .ne (.lst k xs) (.lst l []) = some (!xs.isEmpty) := by
  have e : cmpM .ne (.lst k xs) (.lst l []) = if (MV.lst k xs).shp 60 && (MV.lst l []).shp 60 then some (!MV.eqv (.lst k xs) (.lst l [])) else if lenNe (.lst k xs) (.lst l []) then some true else none := rfl
  rw [e, show MV.eqv (.lst k xs) (.lst l []) = xs.isEmpty from eqvL_nil xs, shp_nil]
  cases xs with
  | nil => rfl
  | cons x xs => cases (MV.lst k (x :: xs)).shp 60 <;> rfl
/-- an if in front -/
theorem sat_iffs {T : Tab} {cl : Nat → List MV → Store → Res MV} {c : E} {a b ss : List S} {ρ : Env} {M M1 : Store} {P : Out × Env → Store → Prop} (t : Bool) (h : evT T cl c ρ M = .ok t M1) (k : (evSs T cl (if t = true then a else b) ρ M1).Sat fun r M' => match r.1 with | .nx => (evSs T cl ss r.2 M').Sat P | _ => P r M') : (evSs T cl (.iff c a b :: ss) ρ M).Sat P := by
  refine sat_st ?_
  simp only [evS, h]
  show (if t = true then evSs T cl a ρ M1 else evSs T cl b ρ M1 : Res (Out × Env)).Sat _
  cases t <;> exact k
namespace TK
def fdLeaves : Fd := ⟨3, 14, [.own 3 (.lst (.nil)), .own 4 (.lst (.cons (.tup (.cons (.tup (.nil)) (.cons (.tup (.cons (.con (.int 0)) (.nil))) (.nil)))) (.nil))), .whl (.cmp .ne (.var 4) (.lst (.nil))) [.popS (.tup [.nm 5, .nm 6]) 4 none, .asg (.tup [.nm 7, .nm 8, .nm 9, .nm 10, .nm 11]) (.idx (.var 0) (.idx (.var 6) (.neg (.con (.int 1))))), .set 12 (.idx (.lst (.cons (.con (.non)) (.cons (.con (.str "none")) (.nil)))) (.bi .int (.cons (.cmp .eq (.var 7) (.tup (.nil))) (.nil)))), .iff (.andd (.var 1) (.var 11)) [.set 12 (.con (.str "cut"))] [], .iff (.cmp .inn (.idx (.var 6) (.neg (.con (.int 1)))) (.sl (.var 6) (.noE) (.neg (.con (.int 1))))) [.set 12 (.con (.str "round"))] [], .iff (.var 8) [.set 12 (.con (.str "done"))] [], .iff (.cmp .notN (.var 12) (.con (.non))) [.app 3 (.tup (.cons (.var 5) (.cons (.var 12) (.nil))))] [.forr (.nm 13) (.bi .range3 (.cons (.bin .sub (.bi .len (.cons (.var 7) (.nil))) (.con (.int 1))) (.cons (.neg (.con (.int 1))) (.cons (.neg (.con (.int 1))) (.nil))))) [.app 4 (.tup (.cons (.bin .add (.var 5) (.tup (.cons (.var 13) (.nil)))) (.cons (.bin .add (.var 6) (.tup (.cons (.idx (.idx (.var 7) (.var 13)) (.con (.int 1))) (.nil)))) (.nil))))]], .iff (.cmp .gt (.bi .len (.cons (.var 3) (.nil))) (.var 2)) [.ret (.con (.non))] []], .ret (.bi .tuple (.cons (.var 3) (.nil)))]⟩
def ndM (x : Nd) : MV := .tup [.tup (x.st.map natM), .tup ((x.pre ++ [x.here]).map natM)]
/-- a list of leaves, or none where they are too many -/
def fewM (mo : Nat) (ls : List Lf) : MV := if ls.length ≤ mo then .tup (ls.map leafM) else .non
theorem szs_le {rs : List Row} {cuts : Bool} (hb : ∀ r ∈ rs, r.nexts.length ≤ 8) : ∀ (n : Nat) (x : Nd), szs rs cuts n x ≤ 9 ^ n
  | 0, x => Nat.zero_le _
  | n + 1, x => by
    simp only [szs]
    split
    · exact Nat.zero_le _
    · rename_i row hr
      split
      · exact Nat.one_le_pow _ _ (by decide)
      · have h1 : ∀ (ys : List Nd), (ys.map (szs rs cuts n)).sum ≤ ys.length * 9 ^ n := by
          intro ys
          induction ys with
          | nil => exact Nat.zero_le _
          | cons y ys ih =>
            rw [List.map_cons, List.sum_cons, List.length_cons, Nat.succ_mul]
            have := szs_le (cuts := cuts) hb n y
            omega
        have h2 := h1 (kids row x)
        have h3 : (kids row x).length ≤ 8 := by
          unfold kids
          rw [List.length_map, List.length_zipIdx]
          exact hb row (List.mem_of_getElem? hr)
        have h4 : (kids row x).length * 9 ^ n ≤ 8 * 9 ^ n := Nat.mul_le_mul_right _ h3
        have h5 : 1 ≤ 9 ^ n := Nat.one_le_pow _ _ (by decide)
        rw [Nat.pow_succ]
        omega
def szP (rs : List Row) (cuts : Bool) (P : List Nd) : Nat := (P.map (sz rs cuts)).sum
theorem szP_cons {rs : List Row} {cuts : Bool} (x : Nd) (P : List Nd) : szP rs cuts (x :: P) = sz rs cuts x + szP rs cuts P := rfl
theorem szP_app {rs : List Row} {cuts : Bool} (P R : List Nd) : szP rs cuts (P ++ R) = szP rs cuts P + szP rs cuts R := by
  unfold szP
  rw [List.map_append, List.sum_append]
theorem Zp.plen {rs : List Row} {cuts : Bool} (hb : ∀ r ∈ rs, r.nexts.length ≤ 8) {x : Nd} {P : List Nd} (z : Zp rs cuts x P) : P.length ≤ 8 * x.pre.length := by
  induction z with
  | root => exact Nat.zero_le _
  | @kid x P L R y row z hr hw hk ih =>
    obtain ⟨p, hp, rfl⟩ := kids_at hk
    have h1 : (kids row x).length ≤ 8 := by
      unfold kids
      rw [List.length_map, List.length_zipIdx]
      exact hb row (List.mem_of_getElem? hr)
    rw [hk, List.length_append, List.length_cons] at h1
    show (R ++ P).length ≤ 8 * (x.pre ++ [x.here]).length
    rw [List.length_append, List.length_append, List.length_singleton]
    omega
/-- a stack, its top first -/
def ZL (rs : List Row) (cuts : Bool) : List Nd → Prop
  | [] => True
  | x :: P => Zp rs cuts x P
theorem ZL.next {rs : List Row} {cuts : Bool} {x : Nd} {P : List Nd} (z : Zp rs cuts x P) : ZL rs cuts P := by
  cases P with
  | nil => exact trivial
  | cons y P => exact z.next
theorem atM_none01 (b : Bool) : atM [MV.non, .str "none"] (if b = true then 1 else 0) = some (if b = true then .str "none" else .non) := by cases b <;> rfl
section
variable {T : Tab} {d : Nat} {M : Store} {cuts : Bool} {rs : List Row}
theorem leaves_ok (h177 : T.fn 177 = some fdLeaves) (hw : 10 ^ 28 < T.W) {rv : MV} (hix : ∀ M i, idxM (rv.dr M) (.int i) = atM (rs.map rowM) i) (hl : 0 < rs.length ∧ rs.length ≤ 24) (hb : ∀ r ∈ rs, r.nexts.length ≤ 8) (hc : ∀ r ∈ rs, ∀ p ∈ r.nexts, p.2 < rs.length) {mo : Nat} {mi : Int} (emo : mi = (mo : Int)) (hmo : mo ≤ 100000) : evC T (d + 1) 177 [rv, .bl cuts, .int mi] M = .ok (fewM mo (lv rs cuts ⟨[], [], 0⟩)) M := by
  refine sat_eq (sat_call [some (.v (rv)), some (.v (.bl cuts)), some (.v (.int mi)), none, none, none, none, none, none, none, none, none, none, none] h177 rfl rfl ?_)
  simp only [fdLeaves]
  refine sat_next (ρ1 := [some (.v (rv)), some (.v (.bl cuts)), some (.v (.int mi)), some (.ol (([] : List Lf).map leafM)), none, none, none, none, none, none, none, none, none, none]) (M1 := M) (by simp_arith [evSs]; rfl) ?_
  refine sat_next (ρ1 := [some (.v (rv)), some (.v (.bl cuts)), some (.v (.int mi)), some (.ol (([] : List Lf).map leafM)), some (.ol ([⟨[], [], 0⟩].map ndM)), none, none, none, none, none, none, none, none, none]) (M1 := M) (by simp_arith [evSs]; rfl) ?_
  refine sat_whls (fun m ρ M' => M' = M ∧ ∃ (found : List Lf) (left : List Nd) (y5 y6 y7 y8 y9 y10 y11 y12 y13 : Option SV), ρ = [some (.v (rv)), some (.v (.bl cuts)), some (.v (.int mi)), some (.ol (found.map leafM)), some (.ol (left.map ndM)), y5, y6, y7, y8, y9, y10, y11, y12, y13] ∧ found.length ≤ mo ∧ lv rs cuts ⟨[], [], 0⟩ = found ++ lvP rs cuts left.reverse ∧ ZL rs cuts left.reverse ∧ m = szP rs cuts left.reverse) (m := szP rs cuts [⟨[], [], 0⟩]) ?_ ?_ ?_
  · have : szP rs cuts [⟨[], [], 0⟩] ≤ 9 ^ 26 := by
      show sz rs cuts ⟨[], [], 0⟩ + 0 ≤ _
      have h1 : sz rs cuts ⟨[], [], 0⟩ ≤ 9 ^ (rs.length + 2 - 0) := szs_le hb _ _
      have h2 : 9 ^ (rs.length + 2 - 0) ≤ 9 ^ 26 := Nat.pow_le_pow_right (by decide) (by omega)
      omega
    have : (9 : Nat) ^ 26 < 10 ^ 28 := by decide
    omega
  · refine ⟨rfl, [], [⟨[], [], 0⟩], none, none, none, none, none, none, none, none, none, rfl, Nat.zero_le _, ?_, .root, rfl⟩
    show _ = lvP rs cuts [⟨[], [], 0⟩]
    rw [lvP_cons]
    show _ = _ ++ []
    rw [List.append_nil]
  rintro m ρ M' ⟨rfl, found, left, y5, y6, y7, y8, y9, y10, y11, y12, y13, rfl, hf, et, hz, hm⟩
  have ene : ∀ k l, cmpM .ne (.lst k (left.map ndM)) (.lst l []) = some (!left.isEmpty) := fun k l => by rw [ne_nilA]; cases left <;> rfl
  cases hlr : left.reverse with
  | nil =>
    have e0 : left = [] := List.reverse_eq_nil_iff.mp hlr
    subst e0
    refine ⟨false, by simp_arith [ene, List.isEmpty_nil, Bool.not_true], nofun, fun _ => ?_⟩
    rw [hlr] at et
    have et : lv rs cuts ⟨[], [], 0⟩ = found := by rw [et]; exact List.append_nil _
    simp_arith [evSs]
    refine sat_ok ⟨?_, rfl⟩
    rw [et]
    unfold fewM
    rw [if_pos hf]
  | cons x P =>
    rw [hlr] at et hz hm
    have hz : Zp rs cuts x P := hz
    have okx := hz.ok hl.1 hc
    have lx := nodup_len okx.1.nd okx.1.lt
    have pl := hz.plen hb
    have e0 : left = P.reverse ++ [x] := by rw [← List.reverse_reverse left, hlr, List.reverse_cons]
    subst e0
    have hne : ((P.reverse ++ [x]).isEmpty) = false := by cases P.reverse <;> rfl
    obtain ⟨row, hr⟩ : ∃ row, rs[x.here]? = some row := ⟨_, List.getElem?_eq_getElem okx.1.h⟩
    have ar := at_row hr
    have hsz : 0 < sz rs cuts x := by
      cases hw : whyF cuts row (decide (x.here ∈ x.pre)) with
      | some w => rw [sz_leaf okx.1 hr hw]; decide
      | none => rw [sz_node okx.1 hr (hc row (List.mem_of_getElem? hr)) hw]; omega
    refine ⟨true, by simp_arith [ene, hne, Bool.not_false], fun _ => ⟨by rw [hm, szP_cons]; omega, ?_⟩, nofun⟩
    have pg : ((P.reverse ++ [x]).map ndM)[((P.reverse ++ [x]).map ndM).length - 1]? = some (.tup [.tup (x.st.map natM), .tup ((x.pre ++ [x.here]).map natM)]) := by
      rw [List.map_append, List.map_singleton, List.length_append, List.length_singleton, List.getElem?_append_right (by omega)]
      simp [ndM]
    have pd : ((P.reverse ++ [x]).map ndM).dropLast = P.reverse.map ndM := by rw [List.map_append, List.map_singleton, List.dropLast_concat]
    have al : atM ((x.pre ++ [x.here]).map natM) (-1) = some (.int (x.here : Int)) := by rw [List.map_append]; exact at_last' _ _
    have ct : cutM ((x.pre ++ [x.here]).map natM) none (some (-1)) = x.pre.map natM := by rw [List.map_append]; exact cut_init _ _
    have inn : cmpM .inn (.int (x.here : Int)) (.tup (x.pre.map natM)) = some (decide (x.here ∈ x.pre)) := in_natI .fz x.here x.pre
    have dn : ∀ M, (nextsM row.nexts).dr M = .tup (row.nexts.map pairM) := fun _ => rfl
    have en : cmpM .eq (.tup (row.nexts.map pairM)) (.tup []) = some row.nexts.isEmpty := by
      rw [eq_nilT (shp_pairs _)]
      cases row.nexts <;> rfl
    refine sat_next (ρ1 := [some (.v (rv)), some (.v (.bl cuts)), some (.v (.int mi)), some (.ol (found.map leafM)), some (.ol (P.reverse.map ndM)), some (.v (.tup (x.st.map natM))), some (.v (.tup ((x.pre ++ [x.here]).map natM))), y7, y8, y9, y10, y11, y12, y13]) (M1 := M') (by simp_arith [pg, pd, bg_t, bindGs, bgs_n]) ?_
    refine sat_next (ρ1 := [some (.v (rv)), some (.v (.bl cuts)), some (.v (.int mi)), some (.ol (found.map leafM)), some (.ol (P.reverse.map ndM)), some (.v (.tup (x.st.map natM))), some (.v (.tup ((x.pre ++ [x.here]).map natM))), some (.v (nextsM row.nexts)), some (.v (.bl row.done)), some (.v (.int row.name)), some (.v (.int row.bound)), some (.v (.bl row.cut)), y12, y13]) (M1 := M') (by simp_arith [al, hix, ar, fr_row]; rfl) ?_
    refine sat_next (ρ1 := [some (.v (rv)), some (.v (.bl cuts)), some (.v (.int mi)), some (.ol (found.map leafM)), some (.ol (P.reverse.map ndM)), some (.v (.tup (x.st.map natM))), some (.v (.tup ((x.pre ++ [x.here]).map natM))), some (.v (nextsM row.nexts)), some (.v (.bl row.done)), some (.v (.int row.name)), some (.v (.int row.bound)), some (.v (.bl row.cut)), some (.v ((if row.nexts.isEmpty = true then .str "none" else .non))), y13]) (M1 := M') (by simp_arith [dn, en, l_intbQ, bi_intQ, atM_none01]; cases row.nexts.isEmpty <;> rfl) ?_
    generalize hq : (if row.nexts.isEmpty = true then MV.str "none" else .non) = q0
    refine sat_next (ρ1 := [some (.v (rv)), some (.v (.bl cuts)), some (.v (.int mi)), some (.ol (found.map leafM)), some (.ol (P.reverse.map ndM)), some (.v (.tup (x.st.map natM))), some (.v (.tup ((x.pre ++ [x.here]).map natM))), some (.v (nextsM row.nexts)), some (.v (.bl row.done)), some (.v (.int row.name)), some (.v (.int row.bound)), some (.v (.bl row.cut)), some (.v ((if (cuts && row.cut) = true then .str "cut" else q0))), y13]) (M1 := M') (by
      cases cuts with
      | false => simp_arith [Bool.false_and]
      | true => cases hcu : row.cut <;> simp_arith [Bool.true_and]) ?_
    generalize hq1 : (if (cuts && row.cut) = true then MV.str "cut" else q0) = q1
    refine sat_next (ρ1 := [some (.v (rv)), some (.v (.bl cuts)), some (.v (.int mi)), some (.ol (found.map leafM)), some (.ol (P.reverse.map ndM)), some (.v (.tup (x.st.map natM))), some (.v (.tup ((x.pre ++ [x.here]).map natM))), some (.v (nextsM row.nexts)), some (.v (.bl row.done)), some (.v (.int row.name)), some (.v (.int row.bound)), some (.v (.bl row.cut)), some (.v ((if decide (x.here ∈ x.pre) = true then .str "round" else q1))), y13]) (M1 := M') (by
      cases hi : decide (x.here ∈ x.pre) <;> (rw [hi] at inn; simp_arith [al, ct, inn])) ?_
    generalize hq2 : (if decide (x.here ∈ x.pre) = true then MV.str "round" else q1) = q2
    refine sat_next (ρ1 := [some (.v (rv)), some (.v (.bl cuts)), some (.v (.int mi)), some (.ol (found.map leafM)), some (.ol (P.reverse.map ndM)), some (.v (.tup (x.st.map natM))), some (.v (.tup ((x.pre ++ [x.here]).map natM))), some (.v (nextsM row.nexts)), some (.v (.bl row.done)), some (.v (.int row.name)), some (.v (.int row.bound)), some (.v (.bl row.cut)), some (.v (whyM (whyF cuts row (decide (x.here ∈ x.pre))))), y13]) (M1 := M') (by
      have ew : whyM (whyF cuts row (decide (x.here ∈ x.pre))) = if row.done = true then .str "done" else q2 := by
        rw [← hq2, ← hq1, ← hq]
        unfold whyF
        split
        · rfl
        · split
          · rfl
          · split
            · rfl
            · split <;> rfl
      rw [ew]
      cases row.done <;> simp_arith [evSs]) ?_
    cases hw : whyF cuts row (decide (x.here ∈ x.pre)) with
    | some w =>
      have el := lv_leaf okx.1 hr hw
      have es := sz_leaf okx.1 hr hw
      have hzz : (found.map leafM).length < SZ := by rw [List.length_map]; show _ < 16777216; omega
      have hpu : found.map leafM ++ [.tup [.tup (x.st.map natM), .str w.s]] = (found ++ [(x.st, w)]).map leafM := by rw [List.map_append]; rfl
      refine sat_next (ρ1 := [some (.v (rv)), some (.v (.bl cuts)), some (.v (.int mi)), some (.ol ((found ++ [(x.st, w)]).map leafM)), some (.ol (P.reverse.map ndM)), some (.v (.tup (x.st.map natM))), some (.v (.tup ((x.pre ++ [x.here]).map natM))), some (.v (nextsM row.nexts)), some (.v (.bl row.done)), some (.v (.int row.name)), some (.v (.int row.bound)), some (.v (.bl row.cut)), some (.v (whyM (some w))), y13]) (M1 := M') (by simp_arith [whyM, c_notNQ, MV.isNon, Bool.not_false, hzz, hpu]) ?_
      obtain ⟨fi, efi⟩ : ∃ fi : Int, fi = ((found ++ [(x.st, w)]).length : Int) := ⟨_, rfl⟩
      have hfi : (((found ++ [(x.st, w)]).map leafM).length : Int) = fi := by rw [List.length_map, efi]
      have fl : (found ++ [(x.st, w)]).length = found.length + 1 := by rw [List.length_append, List.length_singleton]
      have et2 : lv rs cuts ⟨[], [], 0⟩ = (found ++ [(x.st, w)]) ++ lvP rs cuts P := by rw [et, lvP_cons, el, List.append_assoc]
      by_cases c : mi < fi
      · simp_arith [hfi, decide_eq_true c]
        refine sat_ok ⟨?_, rfl⟩
        unfold fewM
        rw [if_neg (by rw [et2, List.length_append]; omega)]
      · simp_arith [hfi, decide_eq_false c]
        exact sat_ok ⟨rfl, _, P.reverse, _, _, _, _, _, _, _, _, _, rfl, by omega, by rw [List.reverse_reverse]; exact et2, by rw [List.reverse_reverse]; exact ZL.next hz, by rw [List.reverse_reverse, hm, szP_cons, es]; omega⟩
    | none =>
      have hcr := hc row (List.mem_of_getElem? hr)
      have el := lv_node okx.1 hr hcr hw
      have es := sz_node okx.1 hr hcr hw
      have hb8 := hb row (List.mem_of_getElem? hr)
      have hkl : (kids row x).length = row.nexts.length := by unfold kids; rw [List.length_map, List.length_zipIdx]
      obtain ⟨ni, eni⟩ : ∃ ni : Int, ni = (row.nexts.length : Int) := ⟨_, rfl⟩
      have hni : ((row.nexts.map pairM).length : Int) = ni := by rw [List.length_map, eni]
      refine sat_iffs false (M1 := M') (by simp_arith [whyM, c_notNQ, MV.isNon, Bool.not_true]) ?_
      show (evSs T (evC T d) [_] _ M').Sat _
      refine sat_fors (v := .lst .fz (rangeD (ni - 1) (-1))) (M1 := M') natM (List.range row.nexts.length).reverse (fun ys ρ M1 => M1 = M' ∧ ∃ (a : Nat) (y13 : Option SV), ρ = [some (.v (rv)), some (.v (.bl cuts)), some (.v (.int mi)), some (.ol (found.map leafM)), some (.ol ((P.reverse ++ ((kids row x).drop a).reverse).map ndM)), some (.v (.tup (x.st.map natM))), some (.v (.tup ((x.pre ++ [x.here]).map natM))), some (.v (nextsM row.nexts)), some (.v (.bl row.done)), some (.v (.int row.name)), some (.v (.int row.bound)), some (.v (.bl row.cut)), some (.v (whyM none)), y13] ∧ ys = (List.range a).reverse ∧ a ≤ row.nexts.length) (by simp_arith [dn, hni, bi_r3Q, l_r3 (ni - 1) (by omega)]) (by rw [eni, rangeD_nat]; rfl) ?_ ?_ ?_
      · exact ⟨rfl, row.nexts.length, y13, by rw [List.drop_of_length_le (by omega), List.reverse_nil, List.append_nil], rfl, Nat.le_refl _⟩
      · rintro k ys ρ M1 ⟨rfl, a, y13, rfl, hy, ha⟩
        cases a with
        | zero => cases hy
        | succ a =>
          rw [List.range_succ, List.reverse_append] at hy
          injection hy with hk' hy
          subst hk'
          have ha' : k < row.nexts.length := by omega
          obtain ⟨p, hp⟩ : ∃ p, row.nexts[k]? = some p := ⟨_, List.getElem?_eq_getElem ha'⟩
          have a1 : atM (row.nexts.map pairM) (k : Int) = some (.tup [.int p.1, .int (p.2 : Int)]) := by rw [atM_map, hp]; rfl
          have hkd : (kids row x).drop k = ⟨x.st ++ [k], x.pre ++ [x.here], p.2⟩ :: (kids row x).drop (k + 1) := by
            have : (kids row x)[k]? = some ⟨x.st ++ [k], x.pre ++ [x.here], p.2⟩ := by unfold kids; rw [List.getElem?_map, List.getElem?_zipIdx, hp]; simp
            rw [List.drop_eq_getElem_cons (by rw [hkl]; exact ha')]
            congr 1
            exact (List.getElem?_eq_some_iff.mp this).2
          obtain ⟨ki, eki⟩ : ∃ ki : Int, ki = (k : Int) := ⟨_, rfl⟩
          rw [← eki] at a1
          have b1 := b_addT (xs := x.st.map natM) (ys := [.int ki]) (by rw [List.length_map, List.length_singleton, okx.1.len]; show _ ≤ 16777216; omega)
          have b2 := b_addT (xs := (x.pre ++ [x.here]).map natM) (ys := [.int (p.2 : Int)]) (by rw [List.length_map, List.length_append, List.length_singleton, List.length_singleton]; show _ ≤ 16777216; omega)
          have hzz : ((P.reverse ++ ((kids row x).drop (k + 1)).reverse).map ndM).length < SZ := by rw [List.length_map, List.length_append, List.length_reverse, List.length_reverse, List.length_drop]; show _ < 16777216; omega
          have hpu : (P.reverse ++ ((kids row x).drop (k + 1)).reverse).map ndM ++ [.tup [.tup (x.st.map natM ++ [.int ki]), .tup ((x.pre ++ [x.here]).map natM ++ [.int (p.2 : Int)])]] = (P.reverse ++ ((kids row x).drop k).reverse).map ndM := by
            rw [hkd, List.reverse_cons, ← List.append_assoc, List.map_append (f := ndM) (l₂ := [_])]
            congr 1
            show _ = [ndM _]
            unfold ndM
            rw [List.map_append (l₁ := x.st), List.map_append (l₁ := x.pre ++ [x.here]), eki]
            rfl
          refine ⟨[some (.v (rv)), some (.v (.bl cuts)), some (.v (.int mi)), some (.ol (found.map leafM)), some (.ol ((P.reverse ++ ((kids row x).drop (k + 1)).reverse).map ndM)), some (.v (.tup (x.st.map natM))), some (.v (.tup ((x.pre ++ [x.here]).map natM))), some (.v (nextsM row.nexts)), some (.v (.bl row.done)), some (.v (.int row.name)), some (.v (.int row.bound)), some (.v (.bl row.cut)), some (.v (whyM none)), some (.v (.int ki))], by rw [eki]; rfl, ?_⟩
          simp_arith [b1, dn, a1, b2, hzz, hpu]
          exact sat_ok ⟨rfl, k, _, rfl, by simpa using hy, by omega⟩
      · rintro ρ M1 ⟨rfl, a, y13, rfl, hy, ha⟩
        have : a = 0 := by
          have := congrArg List.length hy
          simp at this; omega
        subst this
        refine sat_nil ?_
        obtain ⟨fi, efi⟩ : ∃ fi : Int, fi = (found.length : Int) := ⟨_, rfl⟩
        have hfi : ((found.map leafM).length : Int) = fi := by rw [List.length_map, efi]
        have hzn : ZL rs cuts ((P.reverse ++ (kids row x).reverse).reverse) := by
          rw [List.reverse_append, List.reverse_reverse, List.reverse_reverse]
          cases hk : kids row x with
          | nil => exact absurd hk (kids_ne hw)
          | cons y R => exact .kid (L := []) hz hr hw hk
        simp_arith [hfi, decide_eq_false (show ¬ mi < fi by omega)]
        refine sat_ok ⟨rfl, found, P.reverse ++ (kids row x).reverse, _, _, _, _, _, _, _, _, _, rfl, hf, ?_, hzn, ?_⟩
        · rw [et, List.reverse_append, List.reverse_reverse, List.reverse_reverse, lvP_cons, lvP_app, el]; rfl
        · rw [List.reverse_append, List.reverse_reverse, List.reverse_reverse, szP_app, hm, szP_cons, es]
          show 1 + szP rs cuts (kids row x) + szP rs cuts P - 1 = _
          omega
end
end TK
end Q

/-! FcF: trees: what the law makes of them. -/
namespace Q
open PySem
local macro_rules
  | `(tactic| simp_arith [$as,*]) => `(tactic| simp only [$as,*, evSs, evS, evT, evF, evE, evFs, evEs, evO, rb, ro, get0, getS, dr_int, dr_lst, dr_bl, dr_tup, dr_non, dr_str, t_bl, fr_int, fr_bl, fr_str, fr_non, fr_tup, fr_nw, fr_fz, fr_ro, fr_ref, ou_int, ou_bl, ou_tup, ou_nw, ou_fz, ou_bw, ou_ref, ou_non, ou_str, ix_l, ix_t, b_add, b_sub, l_len, l_lent, atM_0, atM_1, atM_2, List.getElem?_cons_zero, List.getElem?_cons_succ, List.length_cons, List.length_nil, List.replicate, List.cons_append, List.nil_append, if_true, Bool.false_eq_true, map1, map2, if_false, szif (Nat.zero_le _), nx_s, so_l, so_d, sv_, bg_, get0o, l_abs, c_ge, c_lt, c_gt, c_le, sl_l, sl_t, it_f, it_t, bi_abs, bi_len, List.set_cons_zero, List.set_cons_succ, Nat.reduceAdd, Nat.reduceLT, Option.map_some, szif (by decide : 1 ≤ 16777216), szif (by decide : 2 ≤ 16777216), szif (by decide : 3 ≤ 16777216), szif (by decide : 4 ≤ 16777216), szif (by decide : 5 ≤ 16777216), szif (by decide : 6 ≤ 16777216), szif (by decide : 7 ≤ 16777216), szif (by decide : 8 ≤ 16777216), szif (by decide : 9 ≤ 16777216), bnd, sq_l, sq_t, wp_n, wp_c, bi_tuple, l_tpl, l_tpt])
mutual
theorem eqv_refl : ∀ v : MV, PyData.eqv v.py v.py = true
  | .non => by simp [MV.py, PyData.eqv]
  | .bl b => by simp [MV.py, PyData.eqv]
  | .int i => by simp [MV.py, PyData.eqv]
  | .str s => by simp [MV.py, PyData.eqv]
  | .tup xs => by simp only [MV.py, PyData.eqv]; exact eqv_reflL xs
  | .lst k xs => by simp only [MV.py, PyData.eqv]; exact eqv_reflL xs
  | .dct _ _ _ => by simp [MV.py, PyData.eqv]
  | .st _ _ => by simp [MV.py, PyData.eqv]
  | .ref _ => by simp [MV.py, PyData.eqv]
theorem eqv_reflL : ∀ xs : List MV, PyData.eqvAll (MV.pyL xs) (MV.pyL xs) = true
  | [] => by simp [MV.pyL, PyData.eqvAll]
  | x :: xs => by simp only [MV.pyL, PyData.eqvAll]; rw [eqv_refl x, eqv_reflL xs]; rfl
end
theorem eqv_pairS (a b y : MV) (s : Str) : MV.eqv (.tup [a, y]) (.tup [b, .str s]) = (MV.eqv a b && MV.eqv y (.str s)) := by simp [MV.eqv, MV.py, MV.pyL, PyData.eqv, PyData.eqvAll]
theorem eqv_isS (y : MV) (s : Str) (h : y.isS = false) : MV.eqv y (.str s) = false := by
  cases y <;> first | (cases h; done) | simp [MV.eqv, MV.py, PyData.eqv]
theorem zipF_map {α : Type} (xs : List MV) (ls : List α) (f : α → MV) : zipF xs (ls.map f) = (xs.zip ls).map fun p => .tup [p.1, f p.2] := by
  induction xs generalizing ls with
  | nil => cases ls <;> rfl
  | cons x xs ih => cases ls with
    | nil => rfl
    | cons l ls =>
      show _ :: _ = _ :: _
      rw [ih]
      rfl
theorem ty_intI {T : Tab} {M : Store} {v : MV} (h : v.pl = true) : isTy T M v .int = some (v.isI || v.isB) := ty_int h
theorem fm_isI (ss : List MV) : (ss.filterMap fun s => if s.isI then none else some s).isEmpty = ss.all MV.isI := by
  induction ss with
  | nil => rfl
  | cons s ss ih =>
    rw [List.all_cons]
    cases hi : s.isI
    · rw [List.filterMap_cons_some (by rw [hi]; rfl)]; rfl
    · rw [List.filterMap_cons_none (by rw [hi]; rfl), ih]; rfl
namespace TK
theorem fewM_some {mo : Nat} {ls : List Lf} (h : ls.length ≤ mo) : fewM mo ls = .tup (ls.map leafM) := if_pos h
theorem fewM_non {mo : Nat} {ls : List Lf} : (fewM mo ls).isNon = decide (¬ ls.length ≤ mo) := by
  unfold fewM
  split
  · rename_i h; rw [decide_eq_false (fun e => e h)]; rfl
  · rename_i h; rw [decide_eq_true h]; rfl
theorem dr_few (mo : Nat) (ls : List Lf) (M : Store) : (fewM mo ls).dr M = fewM mo ls := by unfold fewM; split <;> rfl
def fdSays : Fd := ⟨2, 2, [.ret (.andd (.isin (.var 0) .bool) (.cmp .eq (.var 0) (.var 1)))]⟩
def fdFew : Fd := ⟨2, 4, [.forr (.nm 2) (.bi .range1 (.cons (.con (.int 3)) (.nil))) [.set 3 (.call 41 (.cons (.var 0) (.cons (.idx (.lst (.cons (.con (.int 4)) (.cons (.con (.int 3)) (.cons (.con (.int 2)) (.nil))))) (.var 2)) (.nil)))), .iff (.cmp .notN (.call 177 (.cons (.idx (.var 3) (.con (.int 0))) (.cons (.con (.bl false)) (.cons (.var 1) (.nil))))) (.con (.non))) [.ret (.var 3)] []], .ret (.tup (.cons (.tup (.cons (.tup (.cons (.tup (.cons (.tup (.cons (.con (.int 1)) (.cons (.con (.int 1)) (.nil)))) (.nil))) (.cons (.con (.bl false)) (.cons (.con (.int 0)) (.cons (.con (.int 0)) (.cons (.con (.bl false)) (.nil))))))) (.cons (.tup (.cons (.tup (.nil)) (.cons (.con (.bl true)) (.cons (.con (.int 1)) (.cons (.con (.int 0)) (.cons (.con (.bl false)) (.nil))))))) (.nil)))) (.cons (.tup (.nil)) (.cons (.con (.non)) (.cons (.con (.non)) (.nil))))))]⟩
def fdOther : Fd := ⟨2, 11, [.set 2 (.call 24 (.cons (.var 0) (.nil))), .set 3 (.bin .mod (.var 2) (.con (.int 14))), .set 4 (.bin .mod (.bin .fdiv (.var 2) (.con (.int 14))) (.bi .len (.cons (.var 1) (.nil)))), .asg (.tup [.nm 5, .nm 6]) (.idx (.var 1) (.var 4)), .set 7 (.lst (.cons (.con (.str "done")) (.cons (.con (.str "round")) (.cons (.con (.str "none")) (.cons (.con (.str "cut")) (.cons (.con (.str "")) (.cons (.con (.non)) (.nil)))))))), .own 8 (.lst (.cons (.bin .add (.sl (.var 1) (.noE) (.var 4)) (.sl (.var 1) (.bin .add (.var 4) (.con (.int 1))) (.noE))) (.cons (.bin .add (.sl (.var 1) (.noE) (.bin .add (.var 4) (.con (.int 1)))) (.sl (.var 1) (.var 4) (.noE))) (.cons (.bin .add (.sl (.var 1) (.var 4) (.noE)) (.sl (.var 1) (.noE) (.var 4))) (.cons (.sl (.var 1) (.noE) (.var 4)) (.nil)))))), .own 8 (.bin .add (.var 8) (.lst (.cons (.bin .add (.var 1) (.sl (.var 1) (.noE) (.con (.int 1)))) (.cons (.tup (.nil)) (.cons (.con (.non)) (.cons (.bi .list (.cons (.var 1) (.nil))) (.nil))))))), .app 8 (.bin .add (.bin .add (.sl (.var 1) (.noE) (.var 4)) (.tup (.cons (.tup (.cons (.var 5) (.cons (.idx (.var 7) (.bin .mod (.bin .fdiv (.var 2) (.con (.int 5))) (.con (.int 6)))) (.nil)))) (.nil)))) (.sl (.var 1) (.bin .add (.var 4) (.con (.int 1))) (.noE))), .app 8 (.bin .add (.bin .add (.sl (.var 1) (.noE) (.var 4)) (.tup (.cons (.tup (.cons (.bin .add (.var 5) (.tup (.cons (.con (.int 0)) (.nil)))) (.cons (.var 6) (.nil)))) (.nil)))) (.sl (.var 1) (.bin .add (.var 4) (.con (.int 1))) (.noE))), .app 8 (.bin .add (.bin .add (.sl (.var 1) (.noE) (.var 4)) (.tup (.cons (.tup (.cons (.sl (.var 5) (.noE) (.neg (.con (.int 1)))) (.cons (.var 6) (.nil)))) (.nil)))) (.sl (.var 1) (.bin .add (.var 4) (.con (.int 1))) (.noE))), .forr (.nm 9) (.lst (.cons (.lst (.cons (.var 5) (.cons (.var 6) (.nil)))) (.cons (.tup (.cons (.bi .list (.cons (.var 5) (.nil))) (.cons (.var 6) (.nil)))) (.cons (.tup (.cons (.bi .tuple (.cons (.lc (.cmp .eq (.var 10) (.con (.int 1))) [10] (.nm 10) (.var 5) (.con (.bl true))) (.nil))) (.cons (.var 6) (.nil)))) (.nil))))) [.app 8 (.bin .add (.bin .add (.sl (.var 1) (.noE) (.var 4)) (.tup (.cons (.var 9) (.nil)))) (.sl (.var 1) (.bin .add (.var 4) (.con (.int 1))) (.noE)))], .ret (.idx (.var 8) (.var 3))]⟩
def fdSame : Fd := ⟨2, 6, [.iff (.orr (.nt (.isin (.var 0) .tup)) (.cmp .ne (.bi .len (.cons (.var 0) (.nil))) (.bi .len (.cons (.var 1) (.nil))))) [.ret (.con (.bl false))] [], .forr (.tup [.nm 2, .nm 3]) (.bi .zip (.cons (.var 0) (.cons (.var 1) (.nil)))) [.iff (.orr (.nt (.isin (.var 2) .tup)) (.orr (.cmp .ne (.bi .len (.cons (.var 2) (.nil))) (.con (.int 2))) (.nt (.isin (.idx (.var 2) (.con (.int 0))) .tup)))) [.ret (.con (.bl false))] [], .set 4 (.lc (.var 5) [5] (.nm 5) (.idx (.var 2) (.con (.int 0))) (.orr (.nt (.isin (.var 5) .int)) (.isin (.var 5) .bool))), .iff (.orr (.cmp .ne (.var 4) (.lst (.nil))) (.cmp .ne (.var 2) (.var 3))) [.ret (.con (.bl false))] []], .ret (.con (.bl true))]⟩
/-! leaves, counted -/
theorem lv_ne' {rs : List Row} {cuts : Bool} (hc : ∀ r ∈ rs, ∀ p ∈ r.nexts, p.2 < rs.length) : ∀ (m : Nat) {x : Nd}, NdOk rs.length x → rs.length + 2 - x.pre.length ≤ m → 0 < (lv rs cuts x).length
  | 0, x, hx, hm => by
    have := nodup_len hx.nd hx.lt
    omega
  | m + 1, x, hx, hm => by
    obtain ⟨row, hr⟩ : ∃ row, rs[x.here]? = some row := ⟨_, List.getElem?_eq_getElem hx.h⟩
    cases hw : whyF cuts row (decide (x.here ∈ x.pre)) with
    | some w => rw [lv_leaf hx hr hw]; exact Nat.one_pos
    | none =>
      have hcr := hc row (List.mem_of_getElem? hr)
      rw [lv_node hx hr hcr hw]
      cases hk : kids row x with
      | nil => exact absurd hk (kids_ne hw)
      | cons y R =>
        have hy := kid_ok hx hcr hw y (by rw [hk]; exact List.mem_cons_self ..)
        rw [List.flatMap_cons, List.length_append]
        have := lv_ne' (cuts := cuts) hc m hy.1 (by
          have := nodup_len hx.nd hx.lt
          rw [hy.2, List.length_append, List.length_singleton]; omega)
        omega
theorem why_cut {row : Row} {b : Bool} (h : whyF true row b = none) : whyF false row b = none := by
  obtain ⟨h1, h2, h3, h4⟩ := why_none h
  unfold whyF
  rw [h1, h2]
  cases hn : row.nexts with
  | nil => exact absurd hn h4
  | cons a b => rfl
theorem lv_cut_le {rs : List Row} (hc : ∀ r ∈ rs, ∀ p ∈ r.nexts, p.2 < rs.length) : ∀ (m : Nat) {x : Nd}, NdOk rs.length x → rs.length + 2 - x.pre.length ≤ m → (lv rs true x).length ≤ (lv rs false x).length
  | 0, x, hx, hm => by
    have := nodup_len hx.nd hx.lt
    omega
  | m + 1, x, hx, hm => by
    obtain ⟨row, hr⟩ : ∃ row, rs[x.here]? = some row := ⟨_, List.getElem?_eq_getElem hx.h⟩
    cases hw : whyF true row (decide (x.here ∈ x.pre)) with
    | some w => rw [lv_leaf hx hr hw]; exact lv_ne' hc _ hx (Nat.le_refl _)
    | none =>
      have hcr := hc row (List.mem_of_getElem? hr)
      rw [lv_node hx hr hcr hw, lv_node hx hr hcr (why_cut hw)]
      have hk := kid_ok hx hcr hw
      have : ∀ L : List Nd, (∀ y ∈ L, y ∈ kids row x) → (L.flatMap (lv rs true)).length ≤ (L.flatMap (lv rs false)).length := by
        intro L
        induction L with
        | nil => intro _; exact Nat.le_refl _
        | cons y L ih =>
          intro h
          have hy := hk y (h y (List.mem_cons_self ..))
          rw [List.flatMap_cons, List.flatMap_cons, List.length_append, List.length_append]
          have h1 := lv_cut_le hc m hy.1 (by
            have := nodup_len hx.nd hx.lt
            rw [hy.2, List.length_append, List.length_singleton]; omega)
          have h2 := ih fun z hz => h z (List.mem_cons_of_mem _ hz)
          omega
      exact this _ fun y h => h
theorem lv_st {rs : List Row} {cuts : Bool} (hc : ∀ r ∈ rs, ∀ p ∈ r.nexts, p.2 < rs.length) : ∀ (m : Nat) {x : Nd}, NdOk rs.length x → rs.length + 2 - x.pre.length ≤ m → ∀ l ∈ lv rs cuts x, l.1.length ≤ rs.length
  | 0, x, hx, hm => by
    have := nodup_len hx.nd hx.lt
    omega
  | m + 1, x, hx, hm => by
    have hln := nodup_len hx.nd hx.lt
    obtain ⟨row, hr⟩ : ∃ row, rs[x.here]? = some row := ⟨_, List.getElem?_eq_getElem hx.h⟩
    cases hw : whyF cuts row (decide (x.here ∈ x.pre)) with
    | some w =>
      rw [lv_leaf hx hr hw]
      intro l hl
      rw [List.mem_singleton.mp hl]
      show x.st.length ≤ _
      rw [hx.len]; exact hln
    | none =>
      have hcr := hc row (List.mem_of_getElem? hr)
      rw [lv_node hx hr hcr hw]
      intro l hl
      obtain ⟨y, hy, hl⟩ := List.mem_flatMap.mp hl
      have hyk := kid_ok hx hcr hw y hy
      exact lv_st hc m hyk.1 (by rw [hyk.2, List.length_append, List.length_singleton]; omega) l hl
theorem root_ok {n : Nat} (h : 0 < n) : NdOk n ⟨[], [], 0⟩ := ⟨List.Pairwise.nil, nofun, h, rfl⟩
/-! things like leaves -/
theorem okL_tt {ss : List MV} {y : MV} (hl : ss.length ≤ 1000) (hs : ∀ s ∈ ss, s.pl = true) (hs2 : ∀ s ∈ ss, s.shp 56 = true) (hy : y.pl = true) (hy2 : y.shp 57 = true) : okL (.tup [.tup ss, y]) := by
  refine ⟨rfl, ?_, fun s z e => by cases e; exact ⟨hl, hs⟩, fun a z e => by cases e; exact ⟨rfl, hy⟩⟩
  show ((MV.tup ss).shp 57 && (y.shp 57 && true)) = true
  rw [show (MV.tup ss).shp 57 = true from List.all_eq_true.mpr hs2, hy2]; rfl
theorem okL_tl {ss : List MV} {y : MV} (hs2 : ∀ s ∈ ss, s.shp 56 = true) (hy : y.pl = true) (hy2 : y.shp 57 = true) : okL (.tup [.lst .fz ss, y]) := by
  refine ⟨rfl, ?_, (fun s z e => by cases e), fun a z e => by cases e; exact ⟨rfl, hy⟩⟩
  show ((MV.lst .fz ss).shp 57 && (y.shp 57 && true)) = true
  rw [show (MV.lst .fz ss).shp 57 = true from List.all_eq_true.mpr hs2, hy2]; rfl
theorem okL_l {ss : List MV} {y : MV} (hs2 : ∀ s ∈ ss, s.shp 56 = true) (hy2 : y.shp 57 = true) : okL (.lst .fz [.tup ss, y]) := by
  refine ⟨rfl, ?_, (fun s z e => by cases e), fun a z e => by cases e⟩
  show ((MV.tup ss).shp 57 && (y.shp 57 && true)) = true
  rw [show (MV.tup ss).shp 57 = true from List.all_eq_true.mpr hs2, hy2]; rfl
theorem why_sh (w : Why) : (MV.str w.s).shp 57 = true := by cases w <;> decide +kernel
theorem nat_sh {st : List Nat} : ∀ s ∈ st.map natM, s.shp 56 = true := by
  intro s hs; obtain ⟨k, _, rfl⟩ := List.mem_map.mp hs; rfl
theorem nat_pl {st : List Nat} : ∀ s ∈ st.map natM, s.pl = true := by
  intro s hs; obtain ⟨k, _, rfl⟩ := List.mem_map.mp hs; rfl
theorem okL_leaf {l : Lf} (h : l.1.length ≤ 1000) : okL (leafM l) := okL_tt (by rw [List.length_map]; exact h) nat_pl nat_sh rfl (why_sh _)
structure okTh (v : MV) : Prop where
  pl : v.pl = true
  t : ∀ xs, v = .tup xs → xs.length ≤ 2000 ∧ ∀ x ∈ xs, okL x
theorem okTh_t {xs : List MV} (h : xs.length ≤ 2000) (hx : ∀ x ∈ xs, okL x) : okTh (.tup xs) := ⟨rfl, fun ys e => by cases e; exact ⟨h, hx⟩⟩
theorem holds_len : ∀ {xs : List MV} {ls : List Lf}, holdsF xs ls = true → xs.length = ls.length
  | [], [], _ => rfl
  | [], _ :: _, h => by cases h
  | _ :: _, [], h => by cases h
  | x :: xs, l :: ls, h => by
    have h : (lf x l && holdsF xs ls) = true := h
    rw [Bool.and_eq_true] at h
    rw [List.length_cons, List.length_cons, holds_len h.2]
section
variable {T : Tab} {d b : Nat} {M : Store} {mo : Nat}
theorem says_ok (h176 : T.fn 176 = some fdSays) (x y : Bool) : evC T (d + 1) 176 [.bl x, .bl y] M = .ok (.bl (x == y)) M := by
  refine sat_eq (sat_call [some (.v (.bl x)), some (.v (.bl y))] h176 rfl rfl ?_)
  simp_arith [fdSays, ty_bb, c_eqb]
  exact sat_ok ⟨rfl, rfl⟩
theorem same_ok (h180 : T.fn 180 = some fdSame) {v : MV} (hv : okTh v) {ls : List Lf} (hl : ls.length ≤ 2000) : evC T (d + 1) 180 [v, .tup (ls.map leafM)] M = .ok (.bl (treeF ls v)) M := by
  refine sat_eq (sat_call [some (.v (v)), some (.v (.tup (ls.map leafM))), none, none, none, none] h180 rfl rfl ?_)
  cases ht : v.isT with
  | false =>
    have e : treeF ls v = false := by cases v <;> first | rfl | cases ht
    simp_arith [fdSame, ty_tup hv.pl, ht, e, Bool.not_false]
    exact sat_ok ⟨rfl, rfl⟩
  | true =>
    obtain ⟨xs, rfl⟩ : ∃ xs, v = .tup xs := by cases v <;> first | exact ⟨_, rfl⟩ | cases ht
    obtain ⟨hz, hx⟩ := hv.t xs rfl
    have et : treeF ls (.tup xs) = (decide (xs.length ≤ 2000) && holdsF xs ls) := rfl
    rw [et, decide_eq_true hz, Bool.true_and]
    obtain ⟨xi, exi⟩ : ∃ xi : Int, xi = (xs.length : Int) := ⟨_, rfl⟩
    obtain ⟨li, eli⟩ : ∃ li : Int, li = (ls.length : Int) := ⟨_, rfl⟩
    have hli : ((ls.map leafM).length : Int) = li := by rw [List.length_map, eli]
    simp only [fdSame]
    by_cases hxl : xs.length = ls.length
    · refine sat_next (by simp_arith [ty_tt, Bool.not_true, ← exi, hli, c_nei, show (xi == li) = true from beq_iff_eq.mpr (by omega)]; first | done | exact rfl) ?_
      refine sat_fors (v := .lst .fz ((xs.zip ls).map fun p => .tup [p.1, leafM p.2])) (M1 := M) (fun p : MV × Lf => .tup [p.1, leafM p.2]) (xs.zip ls) (fun ys ρ M' => M' = M ∧ ∃ (us : List MV) (ks : List Lf) (y2 y3 y4 y5 : Option SV), ys = us.zip ks ∧ us.length = ks.length ∧ (∀ u ∈ us, okL u) ∧ ρ = [some (.v (.tup xs)), some (.v (.tup (ls.map leafM))), y2, y3, y4, y5] ∧ holdsF xs ls = holdsF us ks) (by simp_arith [bi_zip, l_zip, zipF_map]) rfl ?_ ?_ ?_
      · exact ⟨rfl, xs, ls, none, none, none, none, rfl, hxl, hx, rfl, rfl⟩
      · rintro ⟨u, k⟩ ys ρ M' ⟨rfl, us, ks, y2, y3, y4, y5, hy, hlen, hu, rfl, e⟩
        match us, ks, hlen with
        | [], [], _ => cases hy
        | u' :: us, k' :: ks, hlen =>
          injection hy with h1 hy
          injection h1 with h1 h2
          subst h1 h2
          have hyo := hu u (List.mem_cons_self ..)
          have e : holdsF xs ls = (lf u k && holdsF us ks) := e
          have ec := c_neS hyo.sh60 (shp_leaf k)
          have fl : (leafM k).frz = some (leafM k) := rfl
          refine ⟨[some (.v (.tup xs)), some (.v (.tup (ls.map leafM))), some (.v (u)), some (.v (leafM k)), y4, y5], by simp only [bindG, bindGs]; rfl, ?_⟩
          match u, hyo with
          | .tup [], hyo =>
            rw [lf_not (by intro ss z e; cases e)] at e
            simp_arith [ty_tt, c_nei, Bool.not_true, show ((((0 : Nat) : Int) == 2)) = false from rfl, Bool.not_false]
            exact sat_ok ⟨by rw [e]; rfl, rfl⟩
          | .tup [a], hyo =>
            rw [lf_not (by intro ss z e; cases e)] at e
            simp_arith [ty_tt, c_nei, Bool.not_true, show ((((([] : List MV).length + 1 : Nat)) : Int) == 2) = false from rfl, Bool.not_false]
            exact sat_ok ⟨by rw [e]; rfl, rfl⟩
          | .tup (a :: b :: c :: zs), hyo =>
            rw [lf_not (by intro ss z e; cases e)] at e
            obtain ⟨qi, eqi⟩ : ∃ qi : Int, qi = ((zs.length + 1 + 1 + 1 : Nat) : Int) := ⟨_, rfl⟩
            simp_arith [ty_tt, c_nei, Bool.not_true, ← eqi, show (qi == 2) = false from beq_eq_false_iff_ne.mpr (by omega), Bool.not_false]
            exact sat_ok ⟨by rw [e]; rfl, rfl⟩
          | .tup [a, y], hyo =>
            have hay := hyo.t a y rfl
            have n2 : ((((([] : List MV).length + 1 + 1 : Nat) : Int)) == 2) = true := rfl
            cases ha : a.isT with
            | false =>
              rw [lf_not (by intro ss z e; cases e; cases ha)] at e
              simp_arith [ty_tt, c_nei, Bool.not_true, n2, pl_frz hay.1, ty_tup hay.1, ha, Bool.not_false]
              exact sat_ok ⟨by rw [e]; rfl, rfl⟩
            | true =>
              obtain ⟨ss, rfl⟩ : ∃ ss, a = .tup ss := by cases a <;> first | exact ⟨_, rfl⟩ | cases ha
              obtain ⟨hsl, hs⟩ := hyo.s ss y rfl
              refine sat_next (by simp_arith [ty_tt, c_nei, Bool.not_true, n2]; first | done | exact rfl) ?_
              refine sat_next (ρ1 := [some (.v (.tup xs)), some (.v (.tup (ls.map leafM))), some (.v (.tup [.tup ss, y])), some (.v (leafM k)), some (.v (.lst .fz (ss.filterMap fun s => if s.isI then none else some s))), y5]) (M1 := M') ?_ ?_
              · simp_arith [evSs]
                rw [lc_pure (fun s => if s.isI then none else some s) ?_ (by show 0 + ss.length ≤ 16777216; omega)]
                · simp_arith [List.nil_append]
                · intro s hs'
                  have hps := hs s hs'
                  cases hi : s.isI <;> cases hb : s.isB <;> first | (cases s <;> first | (cases hi; done) | (cases hb; done)) | simp_arith [pl_frz hps, ty_intI hps, ty_bool hps, hi, hb, Bool.or_true, Bool.or_false, Bool.or_self, Bool.not_true, Bool.not_false]
              · have el : lf (.tup [.tup ss, y]) k = (ss.all MV.isI && y.isS && MV.eqv (.tup [.tup ss, y]) (leafM k)) := rfl
                have en := fm_isI ss
                cases h1 : ss.all MV.isI with
                | false =>
                  rw [h1] at en el
                  rw [el] at e
                  simp_arith [ne_nilA, en, Bool.not_false]
                  exact sat_ok ⟨by rw [e]; rfl, rfl⟩
                | true =>
                  rw [h1] at en el
                  have dk : ∀ M, (MV.tup [.tup ss, y]).dr M = .tup [.tup ss, y] := fun _ => rfl
                  have dl : ∀ M, (leafM k).dr M = leafM k := fun _ => rfl
                  cases h2 : y.isS with
                  | false =>
                    rw [h2] at el
                    rw [el] at e
                    have : MV.eqv (.tup [.tup ss, y]) (leafM k) = false := by
                      show MV.eqv (.tup [.tup ss, y]) (.tup [_, .str _]) = false
                      rw [eqv_pairS, eqv_isS y _ h2, Bool.and_false]
                    rw [this] at ec
                    simp_arith [ne_nilA, en, Bool.not_true, dl, ec, Bool.not_false]
                    exact sat_ok ⟨by rw [e]; rfl, rfl⟩
                  | true =>
                    rw [h2] at el
                    rw [el] at e
                    cases h3 : MV.eqv (.tup [.tup ss, y]) (leafM k) with
                    | false =>
                      rw [h3] at ec e
                      simp_arith [ne_nilA, en, Bool.not_true, dl, ec, Bool.not_false]
                      exact sat_ok ⟨by rw [e]; rfl, rfl⟩
                    | true =>
                      rw [h3] at ec e
                      simp_arith [ne_nilA, en, Bool.not_true, dl, ec]
                      exact sat_ok ⟨rfl, us, ks, _, _, _, _, hy, by simpa using hlen, fun w hw => hu w (List.mem_cons_of_mem _ hw), rfl, e⟩
          | .non, hyo => rw [lf_not (by intro ss z e; cases e)] at e; simp_arith [ty_tup hyo.pl, MV.isT, Bool.not_false]; exact sat_ok ⟨by rw [e]; rfl, rfl⟩
          | .bl b, hyo => rw [lf_not (by intro ss z e; cases e)] at e; simp_arith [ty_tup hyo.pl, MV.isT, Bool.not_false]; exact sat_ok ⟨by rw [e]; rfl, rfl⟩
          | .int b, hyo => rw [lf_not (by intro ss z e; cases e)] at e; simp_arith [ty_tup hyo.pl, MV.isT, Bool.not_false]; exact sat_ok ⟨by rw [e]; rfl, rfl⟩
          | .str b, hyo => rw [lf_not (by intro ss z e; cases e)] at e; simp_arith [ty_tup hyo.pl, MV.isT, Bool.not_false]; exact sat_ok ⟨by rw [e]; rfl, rfl⟩
          | .lst kd b, hyo => rw [lf_not (by intro ss z e; cases e)] at e; simp_arith [ty_tup hyo.pl, MV.isT, Bool.not_false]; exact sat_ok ⟨by rw [e]; rfl, rfl⟩
          | .dct kd t b, hyo => rw [lf_not (by intro ss z e; cases e)] at e; simp_arith [ty_tup hyo.pl, MV.isT, Bool.not_false]; exact sat_ok ⟨by rw [e]; rfl, rfl⟩
          | .st kd b, hyo => exact absurd hyo.pl (by intro e; cases e)
          | .ref kd, hyo => exact absurd hyo.pl (by intro e; cases e)
      · rintro ρ M' ⟨rfl, us, ks, y2, y3, y4, y5, hy, hlen, hu, rfl, e⟩
        match us, ks, hlen with
        | [], [], _ =>
          simp_arith [evSs]
          exact sat_ok ⟨by rw [e]; rfl, rfl⟩
        | _ :: _, _ :: _, _ => cases hy
    · have e : holdsF xs ls = false := by
        cases h : holdsF xs ls with
        | false => rfl
        | true => exact absurd (holds_len h) hxl
      simp_arith [ty_tt, Bool.not_true, ← exi, hli, c_nei, show (xi == li) = false from beq_eq_false_iff_ne.mpr (by omega), Bool.not_false]
      exact sat_ok ⟨by rw [e], rfl⟩
end
end TK
end Q

/-! FcG: trees: drawn tasks, trees put otherwise, the great one. -/
namespace Q
open PySem
local macro_rules
  | `(tactic| simp_arith [$as,*]) => `(tactic| simp only [$as,*, evSs, evS, evT, evF, evE, evFs, evEs, evO, rb, ro, get0, getS, dr_int, dr_lst, dr_bl, dr_tup, dr_non, dr_str, t_bl, fr_int, fr_bl, fr_str, fr_non, fr_tup, fr_nw, fr_fz, fr_ro, fr_ref, ou_int, ou_bl, ou_tup, ou_nw, ou_fz, ou_bw, ou_ref, ou_non, ou_str, ix_l, ix_t, b_add, b_sub, l_len, l_lent, atM_0, atM_1, atM_2, List.getElem?_cons_zero, List.getElem?_cons_succ, List.length_cons, List.length_nil, List.replicate, List.cons_append, List.nil_append, if_true, Bool.false_eq_true, map1, map2, if_false, szif (Nat.zero_le _), nx_s, so_l, so_d, sv_, bg_, get0o, l_abs, c_ge, c_lt, c_gt, c_le, sl_l, sl_t, it_f, it_t, bi_abs, bi_len, List.set_cons_zero, List.set_cons_succ, Nat.reduceAdd, Nat.reduceLT, Option.map_some, szif (by decide : 1 ≤ 16777216), szif (by decide : 2 ≤ 16777216), szif (by decide : 3 ≤ 16777216), szif (by decide : 4 ≤ 16777216), szif (by decide : 5 ≤ 16777216), szif (by decide : 6 ≤ 16777216), szif (by decide : 7 ≤ 16777216), szif (by decide : 8 ≤ 16777216), szif (by decide : 9 ≤ 16777216), bnd, sq_l, sq_t, wp_n, wp_c, bi_tuple, l_tpl, l_tpt])
namespace TK
def fdGreat : Fd := ⟨1, 5, [.own 1 (.lst (.nil)), .forr (.tup [.nm 2, .nm 3]) (.bi .enum (.cons (.lst (.cons (.con (.int 2)) (.cons (.con (.int 2)) (.cons (.con (.int 2)) (.cons (.con (.int 2)) (.cons (.con (.int 5)) (.cons (.con (.int 5)) (.cons (.con (.int 5)) (.nil))))))))) (.nil))) [.app 1 (.tup (.cons (.bin .mul (.tup (.cons (.tup (.cons (.con (.int 1)) (.cons (.bin .add (.var 2) (.con (.int 1))) (.nil)))) (.nil))) (.var 3)) (.cons (.con (.bl false)) (.cons (.var 2) (.cons (.con (.int 0)) (.cons (.con (.bl false)) (.nil)))))))], .app 1 (.tup (.cons (.tup (.nil)) (.cons (.con (.bl true)) (.cons (.con (.int 7)) (.cons (.con (.int 0)) (.cons (.con (.bl false)) (.nil))))))), .frz 1, .set 4 (.call 177 (.cons (.var 1) (.cons (.con (.bl false)) (.cons (.con (.int 3000)) (.nil))))), .ret (.andd (.cmp .eq (.bi .len (.cons (.var 4) (.nil))) (.con (.int 2000))) (.call 176 (.cons (.callk 175 2 (.cons (.mkk 3 1 (.cons (.bi .tuple (.cons (.var 1) (.nil))) (.nil)) [some (.tup []), some (.non), some (.non)] (.nil)) (.cons (.sl (.var 4) (.noE) (.bin .sub (.con (.int 2000)) (.bi .int (.cons (.var 0) (.nil))))) (.nil))) [some (.bl false)] (.nil)) (.cons (.nt (.var 0)) (.nil)))))]⟩
structure TbK24 (T : Tab) : Prop extends TbI T, TbTr T where
  h23 : T.fn 23 = some fdDeck
  h24 : T.fn 24 = some fdNext
  h38 : T.fn 38 = some fdClasses
  h39 : T.fn 39 = some fdRests
  h40 : T.fn 40 = some fdEnds
  h41 : T.fn 41 = some (fdSmall 40)
  h76 : T.fn 76 = some fdTold
  h165 : T.fn 165 = some fdNudged
  h176 : T.fn 176 = some fdSays
  h177 : T.fn 177 = some fdLeaves
  h178 : T.fn 178 = some fdFew
  h179 : T.fn 179 = some fdOther
  h180 : T.fn 180 = some fdSame
  h181 : T.fn 181 = some fdGreat
  i3 : T.ini 3 = some 58
  ww : 10 ^ 28 < T.W
def D0 : Dat := ⟨[⟨[(1, 1)], false, 0, 0, false⟩, ⟨[], true, 1, 0, false⟩], [], none, none⟩
theorem D0_sm : D0.Sm 2000 := by
  refine ⟨⟨by decide, ?_, by decide, nofun, rfl, nofun, nofun⟩, by decide, ?_, ?_⟩
  · intro r hr
    simp only [D0, List.mem_cons, List.not_mem_nil, or_false] at hr
    rcases hr with rfl | rfl
    · exact ⟨by decide, by decide, by decide, by decide⟩
    · exact ⟨by decide, nofun, by decide, by decide⟩
  · intro r hr
    simp only [D0, List.mem_cons, List.not_mem_nil, or_false] at hr
    rcases hr with rfl | rfl <;> decide
  · intro r hr
    simp only [D0, List.mem_cons, List.not_mem_nil, or_false] at hr
    rcases hr with rfl | rfl <;> decide
theorem D0_lv : (lv D0.rows false ⟨[], [], 0⟩).length = 1 := by decide +kernel
theorem Dat.W.c {D : Dat} (h : D.W) : ∀ r ∈ D.rows, ∀ p ∈ r.nexts, p.2 < D.rows.length := fun r hr p hp => ((h.r r hr).p p hp).2.2
theorem Dat.W.b8 {D : Dat} (h : D.W) : ∀ r ∈ D.rows, r.nexts.length ≤ 8 := fun r hr => (h.r r hr).l
section
variable {T : Tab} {d b : Nat} {M : Store} {mo : Nat}
/-- the leaves of a task's rows -/
abbrev lv0 (rs : List Row) (cuts : Bool) : List Lf := lv rs cuts ⟨[], [], 0⟩
theorem leavesD_ok (t : TbK24 T) {D : Dat} (hD : D.W) {cuts : Bool} {mo : Nat} {mi : Int} (emo : mi = (mo : Int)) (hmo : mo ≤ 100000) : evC T (d + 1) 177 [rowsM D.rows, .bl cuts, .int mi] M = .ok (fewM mo (lv0 D.rows cuts)) M :=
  leaves_ok t.h177 t.ww (fun _ _ => rfl) ⟨hD.l.1, hD.l.2⟩ hD.b8 hD.c emo hmo
theorem few_ok (t : TbK24 T) {mi : Int} (emo : mi = (mo : Int)) (hmo : 1 ≤ mo ∧ mo ≤ 100000) (h : Dk M b) (hb : b < 100000) :
    (evC T (d + 4) 178 [.ref 1, .int mi] M).Sat fun v M' => ∃ D : Dat, v = datM D ∧ D.Sm 2000 ∧ (lv0 D.rows false).length ≤ mo ∧ Dk M' (b + 180) ∧ Off M M' := by
  refine sat_call [some (.v (.ref 1)), some (.v (.int mi)), none, none] t.h178 rfl rfl ?_
  simp only [fdFew]
  refine sat_fors (v := .lst .fz (rangeL 0 3)) (M1 := M) natM (List.range 3) (fun xs ρ M' => ∃ (y2 y3 : Option SV), ρ = [some (.v (.ref 1)), some (.v (.int mi)), y2, y3] ∧ xs.length ≤ 3 ∧ (∀ x ∈ xs, x < 3) ∧ Dk M' (b + 60 * (3 - xs.length)) ∧ Off M M') (by simp_arith [bi_r1, l_r1 3 (by decide)]) (by rw [show (3 : Int) = ((3 : Nat) : Int) from rfl, rangeL_nat]; rfl) ?_ ?_ ?_
  · exact ⟨none, none, rfl, Nat.le_refl _, fun x hx => List.mem_range.mp hx, h, Off.refl _⟩
  · rintro k xs ρ M' ⟨y2, y3, rfl, hl, hx, hK, hO⟩
    rw [List.length_cons] at hl hK
    have hk3 := hx k (List.mem_cons_self ..)
    obtain ⟨w, hw, hw2⟩ : ∃ w : Int, atM [MV.int 4, .int 3, .int 2] (k : Int) = some (.int w) ∧ 2 ≤ w ∧ w ≤ 6 := by
      obtain rfl | rfl | rfl : k = 0 ∨ k = 1 ∨ k = 2 := by omega
      · exact ⟨4, rfl, by decide⟩
      · exact ⟨3, rfl, by decide⟩
      · exact ⟨2, rfl, by decide⟩
    obtain ⟨_, M2, e2, D, rfl, hD, hl12, hD2, hO2⟩ := small_ok (d := d) (most := w) t.h41 t.h40 t.h38 t.h39 t.h24 hw2 hK (by omega)
    have hS := hD.sm hl12
    have e3 := leavesD_ok (d := d + 2) (M := M2) t hS.w (cuts := false) emo hmo.2
    refine ⟨[some (.v (.ref 1)), some (.v (.int mi)), some (.v (natM k)), y3], rfl, ?_⟩
    refine sat_next (ρ1 := [some (.v (.ref 1)), some (.v (.int mi)), some (.v (natM k)), some (.v (datM D))]) (M1 := M2) (by simp_arith [natM, hw, e2, fr_dat]) ?_
    by_cases c : (lv0 D.rows false).length ≤ mo
    · simp_arith [dr_dat, fr_rows, e3, dr_few, c_notNQ, fewM_non, decide_eq_false (show ¬ ¬ (lv0 D.rows false).length ≤ mo from fun z => z c), Bool.not_false]
      exact sat_ok ⟨D, rfl, hS, c, hD2.mono (by omega), hO.trans hO2⟩
    · simp_arith [dr_dat, fr_rows, e3, dr_few, c_notNQ, fewM_non, decide_eq_true c, Bool.not_true]
      exact sat_ok ⟨_, _, rfl, by omega, fun x h => hx x (List.mem_cons_of_mem _ h), hD2.mono (by omega), hO.trans hO2⟩
  · rintro ρ M' ⟨y2, y3, rfl, hl, hx, hK, hO⟩
    simp_arith [evSs]
    exact sat_ok ⟨D0, rfl, D0_sm, by rw [D0_lv]; exact hmo.1, hK.mono (by omega), hO⟩
theorem sl_ok {α : Type} {P : α → Prop} {xs : List α} (h : ∀ x ∈ xs, P x) (lo hi : Option Int) : ∀ x ∈ cutM xs lo hi, P x := fun x hx => h x (cut_mem hx)
theorem other_ok (h179 : T.fn 179 = some fdOther) (hN : T.fn 24 = some fdNext) {ls : List Lf} (hls : 1 ≤ ls.length ∧ ls.length ≤ 450) (h24 : ∀ l ∈ ls, l.1.length ≤ 24) (h : Dk M b) (hb : b < 900000) :
    (evC T (d + 2) 179 [.ref 1, .tup (ls.map leafM)] M).Sat fun v M' => okTh v ∧ Dk M' (b + 1) ∧ Off M M' := by
  obtain ⟨_, M1, e1, n, rfl, hn, hD1, hO1⟩ := next_ok (d := d) hN h (by omega)
  obtain ⟨S, hS⟩ : ∃ S, S = ls.map leafM := ⟨_, rfl⟩
  have hSl : S.length = ls.length := by rw [hS, List.length_map]
  have hSp : ∀ x ∈ S, okL x := by
    intro x hx
    rw [hS] at hx
    obtain ⟨l, hl, rfl⟩ := List.mem_map.mp hx
    exact okL_leaf (by have := h24 l hl; omega)
  obtain ⟨si, esi⟩ : ∃ si : Int, si = (S.length : Int) := ⟨_, rfl⟩
  obtain ⟨ai, eai⟩ : ∃ ai : Int, ai = n / 14 % si := ⟨_, rfl⟩
  obtain ⟨a, ea, ha⟩ : ∃ a : Nat, ai = (a : Int) ∧ a < ls.length := ⟨ai.toNat, by have := Int.emod_nonneg (n / 14) (show si ≠ 0 by omega); omega, by have := Int.emod_lt_of_pos (n / 14) (show 0 < si by omega); have := Int.emod_nonneg (n / 14) (show si ≠ 0 by omega); omega⟩
  obtain ⟨l, hl⟩ : ∃ l, ls[a]? = some l := ⟨_, List.getElem?_eq_getElem ha⟩
  have hl24 := h24 l (List.mem_of_getElem? hl)
  have atl : atM S ai = some (.tup [.tup (l.1.map natM), .str l.2.s]) := by rw [hS, ea, atM_map, hl]; rfl
  obtain ⟨q, hq⟩ : ∃ q, atM [MV.str "done", .str "round", .str "none", .str "cut", .str "", .non] (n / 5 % 6) = some q ∧ q.pl = true ∧ q.shp 57 = true := by
    have h0 := Int.emod_nonneg (n / 5) (show (6 : Int) ≠ 0 by decide)
    have h1 := Int.emod_lt_of_pos (n / 5) (show (0 : Int) < 6 by decide)
    generalize n / 5 % 6 = k at h0 h1
    obtain rfl | rfl | rfl | rfl | rfl | rfl : k = 0 ∨ k = 1 ∨ k = 2 ∨ k = 3 ∨ k = 4 ∨ k = 5 := by omega
    · exact ⟨_, rfl, rfl, by decide +kernel⟩
    · exact ⟨_, rfl, rfl, by decide +kernel⟩
    · exact ⟨_, rfl, rfl, by decide +kernel⟩
    · exact ⟨_, rfl, rfl, by decide +kernel⟩
    · exact ⟨_, rfl, rfl, by decide +kernel⟩
    · exact ⟨_, rfl, rfl, rfl⟩
  obtain ⟨hqa, hq1, hq2⟩ := hq
  obtain ⟨W, hW⟩ : ∃ W, W = l.1.map natM := ⟨_, rfl⟩
  have hWl : W.length ≤ 24 := by rw [hW, List.length_map]; exact hl24
  have hWp : ∀ x ∈ W, x.pl = true := by rw [hW]; exact nat_pl
  have hWs : ∀ x ∈ W, x.shp 56 = true := by rw [hW]; exact nat_sh
  rw [← hW] at atl
  have wsh := why_sh l.2
  obtain ⟨B8, h8⟩ : ∃ P, P = l.1.map fun k : Nat => MV.bl ((k : Int) == 1) := ⟨_, rfl⟩
  have hBl : B8.length ≤ 24 := by rw [h8, List.length_map]; exact hl24
  have hBp : ∀ x ∈ B8, x.pl = true := by rw [h8]; intro x hx; obtain ⟨k, _, rfl⟩ := List.mem_map.mp hx; rfl
  have hBs : ∀ x ∈ B8, x.shp 56 = true := by rw [h8]; intro x hx; obtain ⟨k, _, rfl⟩ := List.mem_map.mp hx; rfl
  have W1l := cut_len W none (some (-1))
  have W1p := sl_ok hWp none (some (-1))
  have W1s := sl_ok hWs none (some (-1))
  have c1 := cut_len S none (some ai)
  have c2 := cut_len S (some (ai + 1)) none
  have c3 := cut_len S none (some (ai + 1))
  have c4 := cut_len S (some ai) none
  have c5 := cut_len S none (some 1)
  have m1 := sl_ok hSp none (some ai)
  have m2 := sl_ok hSp (some (ai + 1)) none
  have m3 := sl_ok hSp none (some (ai + 1))
  have m4 := sl_ok hSp (some ai) none
  have m5 := sl_ok hSp none (some 1)
  generalize hC1 : cutM S none (some ai) = C1 at *
  generalize hC2 : cutM S (some (ai + 1)) none = C2 at *
  generalize hC3 : cutM S none (some (ai + 1)) = C3 at *
  generalize hC4 : cutM S (some ai) none = C4 at *
  generalize hC5 : cutM S none (some 1) = C5 at *
  generalize hW1 : cutM W none (some (-1)) = W1 at *
  have mp : ∀ {xs ys : List MV}, (∀ x ∈ xs, okL x) → (∀ x ∈ ys, okL x) → ∀ x ∈ xs ++ ys, okL x := fun hx hy z hz => (List.mem_append.mp hz).elim (hx z) (hy z)
  have ms : ∀ {x : MV}, okL x → ∀ y ∈ [x], okL y := fun hx y hy => by rw [List.mem_singleton.mp hy]; exact hx
  have hz : ∀ {xs ys : List MV}, xs.length ≤ 1000 → ys.length ≤ 1000 → xs.length + ys.length ≤ SZ := fun h1 h2 => by show _ ≤ 16777216; omega
  have a1 := b_addT (hz (show C1.length ≤ 1000 by omega) (show C2.length ≤ 1000 by omega))
  have a2 := b_addT (hz (show C3.length ≤ 1000 by omega) (show C4.length ≤ 1000 by omega))
  have a3 := b_addT (hz (show C4.length ≤ 1000 by omega) (show C1.length ≤ 1000 by omega))
  have a4 := b_addT (hz (show S.length ≤ 1000 by omega) (show C5.length ≤ 1000 by omega))
  have a5 : ∀ x : MV, binM .add (.tup C1) (.tup [x]) = some (.tup (C1 ++ [x])) := fun x => b_addT (hz (show C1.length ≤ 1000 by omega) (by decide : 1 ≤ 1000))
  have a6 : ∀ x : MV, binM .add (.tup (C1 ++ [x])) (.tup C2) = some (.tup (C1 ++ [x] ++ C2)) := fun x => b_addT (hz (show (C1 ++ [x]).length ≤ 1000 by rw [List.length_append, List.length_singleton]; omega) (show C2.length ≤ 1000 by omega))
  have a7 := b_addT (hz (show W.length ≤ 1000 by omega) (show [MV.int 0].length ≤ 1000 by decide))
  have k1 : okTh (.tup (C1 ++ C2)) := okTh_t (by rw [List.length_append]; omega) (mp m1 m2)
  have k2 : okTh (.tup (C3 ++ C4)) := okTh_t (by rw [List.length_append]; omega) (mp m3 m4)
  have k3 : okTh (.tup (C4 ++ C1)) := okTh_t (by rw [List.length_append]; omega) (mp m4 m1)
  have k4 : okTh (.tup C1) := okTh_t (by omega) m1
  have k5 : okTh (.tup (S ++ C5)) := okTh_t (by rw [List.length_append]; omega) (mp hSp m5)
  have k6 : okTh (.tup []) := okTh_t (by decide) nofun
  have k7 : okTh .non := ⟨rfl, nofun⟩
  have k8 : okTh (.lst .fz S) := ⟨rfl, nofun⟩
  have kk : ∀ x : MV, okL x → okTh (.tup (C1 ++ [x] ++ C2)) := fun x hx => okTh_t (by rw [List.length_append, List.length_append, List.length_singleton]; omega) (mp (mp m1 (ms hx)) m2)
  have k9 := kk _ (okL_tt (ss := W) (y := q) (by omega) hWp hWs hq1 hq2)
  have W0p : ∀ x ∈ W ++ [MV.int 0], x.pl = true := fun x hx => (List.mem_append.mp hx).elim (hWp x) fun e => by rw [List.mem_singleton.mp e]; rfl
  have W0s : ∀ x ∈ W ++ [MV.int 0], x.shp 56 = true := fun x hx => (List.mem_append.mp hx).elim (hWs x) fun e => by rw [List.mem_singleton.mp e]; rfl
  have k10 := kk _ (okL_tt (ss := W ++ [.int 0]) (y := .str l.2.s) (by rw [List.length_append, List.length_singleton]; omega) W0p W0s rfl wsh)
  have k11 := kk _ (okL_tt (ss := W1) (y := .str l.2.s) (by omega) W1p W1s rfl wsh)
  have k12 := kk _ (okL_l (ss := W) (y := .str l.2.s) hWs wsh)
  have k13 := kk _ (okL_tl (ss := W) (y := .str l.2.s) hWs rfl wsh)
  have k14 := kk _ (okL_tt (ss := B8) (y := .str l.2.s) (by omega) hBp hBs rfl wsh)
  obtain ⟨L1, hL1⟩ : ∃ L, L = [MV.tup (C1 ++ C2), .tup (C3 ++ C4), .tup (C4 ++ C1), .tup C1] := ⟨_, rfl⟩
  obtain ⟨L2, hL2⟩ : ∃ L, L = L1 ++ [MV.tup (S ++ C5), .tup [], .non, .lst .fz S] := ⟨_, rfl⟩
  obtain ⟨L3, hL3⟩ : ∃ L, L = L2 ++ [.tup (C1 ++ [.tup [.tup W, q]] ++ C2)] := ⟨_, rfl⟩
  obtain ⟨L4, hL4⟩ : ∃ L, L = L3 ++ [.tup (C1 ++ [.tup [.tup (W ++ [.int 0]), .str l.2.s]] ++ C2)] := ⟨_, rfl⟩
  obtain ⟨L5, hL5⟩ : ∃ L, L = L4 ++ [.tup (C1 ++ [.tup [.tup W1, .str l.2.s]] ++ C2)] := ⟨_, rfl⟩
  obtain ⟨X1, hX1⟩ : ∃ X, X = [MV.lst .fz [.tup W, .str l.2.s], .tup [.lst .fz W, .str l.2.s], .tup [.tup B8, .str l.2.s]] := ⟨_, rfl⟩
  have len1 : L1.length = 4 := by rw [hL1]; rfl
  have len2 : L2.length = 8 := by rw [hL2, List.length_append, len1]; rfl
  have len3 : L3.length = 9 := by rw [hL3, List.length_append, len2]; rfl
  have len4 : L4.length = 10 := by rw [hL4, List.length_append, len3]; rfl
  have len5 : L5.length = 11 := by rw [hL5, List.length_append, len4]; rfl
  have l2 : binM .add (.lst .bw L1) (.lst .nw [MV.tup (S ++ C5), .tup [], .non, .lst .fz S]) = some (.lst .nw L2) := by
    rw [hL2]; exact b_addl (by rw [len1]; show 8 ≤ 16777216; decide) (by decide) (by decide)
  have o5 : ∀ x ∈ L5, okTh x := by
    intro x hx
    rw [hL5, hL4, hL3, hL2, hL1] at hx
    simp only [List.mem_append, List.mem_cons, List.not_mem_nil, or_false] at hx
    rcases hx with (((hx | hx) | hx) | hx) | hx
    · rcases hx with rfl | rfl | rfl | rfl
      exact k1; exact k2; exact k3; exact k4
    · rcases hx with rfl | rfl | rfl | rfl
      exact k5; exact k6; exact k7; exact k8
    · subst hx; exact k9
    · subst hx; exact k10
    · subst hx; exact k11
  rw [← hS]
  refine sat_call [some (.v (.ref 1)), some (.v (.tup S)), none, none, none, none, none, none, none, none, none] h179 rfl rfl ?_
  simp only [fdOther]
  refine sat_next (ρ1 := [some (.v (.ref 1)), some (.v (.tup S)), some (.v (.int n)), none, none, none, none, none, none, none, none]) (M1 := M1) (by simp_arith [e1]) ?_
  refine sat_next (ρ1 := [some (.v (.ref 1)), some (.v (.tup S)), some (.v (.int n)), some (.v (.int (n % 14))), none, none, none, none, none, none, none]) (M1 := M1) (by simp_arith [b_mod n 14 (by decide)]) ?_
  refine sat_next (ρ1 := [some (.v (.ref 1)), some (.v (.tup S)), some (.v (.int n)), some (.v (.int (n % 14))), some (.v (.int ai)), none, none, none, none, none, none]) (M1 := M1) (by simp_arith [b_div n 14 (by decide), ← esi, b_mod (n / 14) si (by omega), ← eai]) ?_
  refine sat_next (ρ1 := [some (.v (.ref 1)), some (.v (.tup S)), some (.v (.int n)), some (.v (.int (n % 14))), some (.v (.int ai)), some (.v (.tup W)), some (.v (.str l.2.s)), none, none, none, none]) (M1 := M1) (by simp_arith [atl, bg_t, bindGs, bgs_n]) ?_
  refine sat_next (ρ1 := [some (.v (.ref 1)), some (.v (.tup S)), some (.v (.int n)), some (.v (.int (n % 14))), some (.v (.int ai)), some (.v (.tup W)), some (.v (.str l.2.s)), some (.v (.lst .fz [MV.str "done", .str "round", .str "none", .str "cut", .str "", .non])), none, none, none]) (M1 := M1) (by simp_arith [evSs]) ?_
  refine sat_next (ρ1 := [some (.v (.ref 1)), some (.v (.tup S)), some (.v (.int n)), some (.v (.int (n % 14))), some (.v (.int ai)), some (.v (.tup W)), some (.v (.str l.2.s)), some (.v (.lst .fz [MV.str "done", .str "round", .str "none", .str "cut", .str "", .non])), some (.ol (L1)), none, none]) (M1 := M1) (by rw [hL1]; simp_arith [hC1, hC2, hC3, hC4, a1, a2, a3]) ?_
  refine sat_next (ρ1 := [some (.v (.ref 1)), some (.v (.tup S)), some (.v (.int n)), some (.v (.int (n % 14))), some (.v (.int ai)), some (.v (.tup W)), some (.v (.str l.2.s)), some (.v (.lst .fz [MV.str "done", .str "round", .str "none", .str "cut", .str "", .non])), some (.ol (L2)), none, none]) (M1 := M1) (by simp_arith [hC5, a4, l_list, bi_listQ, l2]) ?_
  refine sat_next (ρ1 := [some (.v (.ref 1)), some (.v (.tup S)), some (.v (.int n)), some (.v (.int (n % 14))), some (.v (.int ai)), some (.v (.tup W)), some (.v (.str l.2.s)), some (.v (.lst .fz [MV.str "done", .str "round", .str "none", .str "cut", .str "", .non])), some (.ol (L3)), none, none]) (M1 := M1) (by simp_arith [hC1, hC2, b_div n 5 (by decide), b_mod (n / 5) 6 (by decide), hqa, pl_frz hq1, a5, a6, show L2.length < SZ by rw [len2]; decide, ← hL3]) ?_
  refine sat_next (ρ1 := [some (.v (.ref 1)), some (.v (.tup S)), some (.v (.int n)), some (.v (.int (n % 14))), some (.v (.int ai)), some (.v (.tup W)), some (.v (.str l.2.s)), some (.v (.lst .fz [MV.str "done", .str "round", .str "none", .str "cut", .str "", .non])), some (.ol (L4)), none, none]) (M1 := M1) (by simp_arith [hC1, hC2, a7, a5, a6, show L3.length < SZ by rw [len3]; decide, ← hL4]) ?_
  refine sat_next (ρ1 := [some (.v (.ref 1)), some (.v (.tup S)), some (.v (.int n)), some (.v (.int (n % 14))), some (.v (.int ai)), some (.v (.tup W)), some (.v (.str l.2.s)), some (.v (.lst .fz [MV.str "done", .str "round", .str "none", .str "cut", .str "", .non])), some (.ol (L5)), none, none]) (M1 := M1) (by simp_arith [hC1, hC2, hW1, a5, a6, show L4.length < SZ by rw [len4]; decide, ← hL5]) ?_
  refine sat_fors (v := .lst .fz X1) (M1 := M1) id X1 (fun ys ρ M' => M' = M1 ∧ ∃ (L : List MV) (y9 : Option SV), ρ = [some (.v (.ref 1)), some (.v (.tup S)), some (.v (.int n)), some (.v (.int (n % 14))), some (.v (.int ai)), some (.v (.tup W)), some (.v (.str l.2.s)), some (.v (.lst .fz [MV.str "done", .str "round", .str "none", .str "cut", .str "", .non])), some (.ol (L)), y9, none] ∧ L.length + ys.length = 14 ∧ (∀ x ∈ L, okTh x) ∧ ∀ y ∈ ys, y.frz = some y ∧ okTh (.tup (C1 ++ [y] ++ C2))) ?_ (by rw [List.map_id]; rfl) ?_ ?_ ?_
  · rw [hX1]
    simp_arith [l_list, bi_listQ]
    rw [hW, lc_map (φ := natM) (fun k : Nat => some (MV.bl ((k : Int) == 1))) ?_ (Nat.le_trans hl24 (by decide))]
    · simp_arith [K13.fm_some, ← h8]
    · intro k _
      simp_arith [natM, c_eqi]
  · refine ⟨rfl, L5, none, rfl, by rw [len5, hX1]; rfl, o5, ?_⟩
    rw [hX1]
    intro y hy
    simp only [List.mem_cons, List.not_mem_nil, or_false] at hy
    rcases hy with rfl | rfl | rfl
    exact ⟨rfl, k12⟩; exact ⟨rfl, k13⟩; exact ⟨rfl, k14⟩
  · rintro y ys ρ M' ⟨rfl, L, y9, rfl, hlen, ho, hy⟩
    rw [List.length_cons] at hlen
    have hyy := hy y (List.mem_cons_self ..)
    refine ⟨[some (.v (.ref 1)), some (.v (.tup S)), some (.v (.int n)), some (.v (.int (n % 14))), some (.v (.int ai)), some (.v (.tup W)), some (.v (.str l.2.s)), some (.v (.lst .fz [MV.str "done", .str "round", .str "none", .str "cut", .str "", .non])), some (.ol (L)), some (.v (y)), none], rfl, ?_⟩
    simp_arith [hC1, hC2, hyy.1, a5, a6, show L.length < SZ by show _ < 16777216; omega]
    refine sat_ok ⟨rfl, _, _, rfl, by rw [List.length_append, List.length_singleton]; omega, ?_, fun y h => hy y (List.mem_cons_of_mem _ h)⟩
    intro x hx
    rcases List.mem_append.mp hx with hx | hx
    · exact ho x hx
    · rw [List.mem_singleton.mp hx]; exact hyy.2
  · rintro ρ M' ⟨rfl, L, y9, rfl, hlen, ho, _⟩
    rw [List.length_nil] at hlen
    obtain ⟨x, hxm, hx⟩ := at_mod' (xs := L) (by intro e; rw [e] at hlen; cases hlen) n
    rw [show L.length = 14 by omega] at hx
    have hx : atM L (n % 14) = some x := hx
    simp_arith [hx, pl_out (ho x hxm).pl]
    exact sat_ok ⟨ho x hxm, hD1, hO1⟩
end
end TK
end Q

/-! FcH: trees: the law. -/
namespace Q
open PySem
local macro_rules
  | `(tactic| simp_arith [$as,*]) => `(tactic| simp only [$as,*, evSs, evS, evT, evF, evE, evFs, evEs, evO, rb, ro, get0, getS, dr_int, dr_lst, dr_bl, dr_tup, dr_non, dr_str, t_bl, fr_int, fr_bl, fr_str, fr_non, fr_tup, fr_nw, fr_fz, fr_ro, fr_ref, ou_int, ou_bl, ou_tup, ou_nw, ou_fz, ou_bw, ou_ref, ou_non, ou_str, ix_l, ix_t, b_add, b_sub, l_len, l_lent, atM_0, atM_1, atM_2, List.getElem?_cons_zero, List.getElem?_cons_succ, List.length_cons, List.length_nil, List.replicate, List.cons_append, List.nil_append, if_true, Bool.false_eq_true, map1, map2, if_false, szif (Nat.zero_le _), nx_s, so_l, so_d, sv_, bg_, get0o, l_abs, c_ge, c_lt, c_gt, c_le, sl_l, sl_t, it_f, it_t, bi_abs, bi_len, List.set_cons_zero, List.set_cons_succ, Nat.reduceAdd, Nat.reduceLT, Option.map_some, szif (by decide : 1 ≤ 16777216), szif (by decide : 2 ≤ 16777216), szif (by decide : 3 ≤ 16777216), szif (by decide : 4 ≤ 16777216), szif (by decide : 5 ≤ 16777216), szif (by decide : 6 ≤ 16777216), szif (by decide : 7 ≤ 16777216), szif (by decide : 8 ≤ 16777216), szif (by decide : 9 ≤ 16777216), bnd, sq_l, sq_t, wp_n, wp_c, bi_tuple, l_tpl, l_tpt])
namespace TK
def fdLaw24 : Fd := ⟨1, 11, [.set 1 (.call 23 (.cons (.var 0) (.nil))), .forr (.nm 2) (.bi .range1 (.cons (.con (.int 2)) (.nil))) [.set 3 (.call 178 (.cons (.var 1) (.cons (.con (.int 400)) (.nil)))), .iff (.cmp .eq (.bin .mod (.call 24 (.cons (.var 1) (.nil))) (.con (.int 4))) (.con (.int 0))) [.set 4 (.call 165 (.cons (.var 1) (.cons (.var 3) (.nil)))), .iff (.cmp .notN (.call 177 (.cons (.idx (.var 4) (.con (.int 0))) (.cons (.con (.bl false)) (.cons (.con (.int 400)) (.nil))))) (.con (.non))) [.set 3 (.var 4)] []] [], .set 5 (.call 76 (.cons (.var 3) (.nil))), .set 6 (.lc (.call 177 (.cons (.idx (.var 3) (.con (.int 0))) (.cons (.var 7) (.cons (.con (.int 400)) (.nil))))) [7] (.nm 7) (.lst (.cons (.con (.bl false)) (.cons (.con (.bl true)) (.nil)))) (.con (.bl true))), .forr (.nm 8) (.bi .range1 (.cons (.con (.int 6)) (.nil))) [.set 9 (.idx (.var 6) (.bin .mod (.var 8) (.con (.int 2)))), .iff (.cmp .gt (.var 8) (.con (.int 1))) [.set 9 (.call 179 (.cons (.var 1) (.cons (.var 9) (.nil))))] [], .iff (.nt (.call 176 (.cons (.callk 175 2 (.cons (.var 5) (.cons (.var 9) (.nil))) [some (.bl false)] (.nil)) (.cons (.call 180 (.cons (.var 9) (.cons (.idx (.var 6) (.con (.int 0))) (.nil)))) (.nil))))) [.ret (.con (.bl false))] [], .forr (.nm 7) (.lst (.cons (.con (.bl false)) (.cons (.con (.bl true)) (.nil)))) [.set 10 (.call 180 (.cons (.var 9) (.cons (.idx (.var 6) (.bi .int (.cons (.var 7) (.nil)))) (.nil)))), .iff (.nt (.call 176 (.cons (.callk 175 2 (.cons (.var 5) (.cons (.var 9) (.nil))) [none] (.cons (.var 7) (.nil))) (.cons (.var 10) (.nil))))) [.ret (.con (.bl false))] []]]], .ret (.call 181 (.cons (.cmp .eq (.bin .mod (.call 24 (.cons (.var 1) (.nil))) (.con (.int 2))) (.con (.int 0))) (.nil)))]⟩
def gm : List Nat := [2, 2, 2, 2, 5, 5, 5]
def gRow (p : Nat × Nat) : Row := ⟨List.replicate p.1 (1, p.2 + 1), false, (p.2 : Int), 0, false⟩
def gRows : List Row := gm.zipIdx.map gRow ++ [⟨[], true, 7, 0, false⟩]
def DG : Dat := ⟨gRows, [], none, none⟩
theorem rowW_b {n : Nat} {r : Row} (h : (decide (r.nexts.length ≤ 8) && r.nexts.all (fun p => decide (0 ≤ p.1) && decide (p.1 ≤ 1000) && decide (p.2 < n)) && decide (0 ≤ r.name ∧ r.name ≤ 99) && decide (0 ≤ r.bound ∧ r.bound ≤ 100000)) = true) : RowW n r := by
  simp only [Bool.and_eq_true, decide_eq_true_eq, List.all_eq_true] at h
  exact ⟨h.1.1.1, fun p hp => ⟨(h.1.1.2 p hp).1.1, (h.1.1.2 p hp).1.2, (h.1.1.2 p hp).2⟩, h.1.2, h.2⟩
theorem DG_w : DG.W := by
  refine ⟨by decide, fun r hr => rowW_b ?_, by decide, nofun, rfl, nofun, nofun⟩
  exact List.all_eq_true.mp (show gRows.all (fun r => decide (r.nexts.length ≤ 8) && r.nexts.all (fun p => decide (0 ≤ p.1) && decide (p.1 ≤ 1000) && decide (p.2 < gRows.length)) && decide (0 ≤ r.name ∧ r.name ≤ 99) && decide (0 ≤ r.bound ∧ r.bound ≤ 100000)) = true by decide +kernel) r hr
theorem DG_lv : (lv0 gRows false).length = 2000 := by decide +kernel
theorem lf_self (l : Lf) : lf (leafM l) l = true := by
  show ((l.1.map natM).all MV.isI && true && MV.eqv (leafM l) (leafM l)) = true
  rw [show MV.eqv (leafM l) (leafM l) = true from eqv_refl _, Bool.and_true, Bool.and_true, List.all_eq_true]
  intro x hx; obtain ⟨k, _, rfl⟩ := List.mem_map.mp hx; rfl
theorem holds_take : ∀ (ls ms : List Lf), holdsF (ls.map leafM) (ls ++ ms) = ms.isEmpty
  | [], ms => rfl
  | l :: ls, ms => by
    show (lf (leafM l) l && holdsF (ls.map leafM) (ls ++ ms)) = _
    rw [lf_self, holds_take ls ms, Bool.true_and]
theorem fill_f : fillM [some (MV.bl false)] [] = [.bl false] := rfl
theorem fill_x (x : MV) : fillM [none] [x] = [x] := rfl
theorem fill_t : fillM [some (MV.tup []), some .non, some .non] [] = [.tup [], .non, .non] := rfl
theorem int_b (b : Bool) : evBi .int [.bl b] = some (.int (if b then 1 else 0)) := rfl
section
variable {T : Tab} {d b : Nat} {M : Store}
theorem great_ok (t : TbK24 T) (less : Bool) (h : Dk M b) (h2 : 2 ≤ M.nx) : (evC T (d + 7) 181 [.bl less] M).Sat fun v M' => v = .bl true := by
  have hll : (lv0 gRows false).length = 2000 := DG_lv
  have e1 := leavesD_ok (d := d + 5) (M := M) t DG_w (cuts := false) (mo := 3000) (mi := 3000) rfl (by decide)
  have e1' := leaves_ok (d := d + 5) (M := M) (rv := .lst .fz (gRows.map rowM)) (rs := gRows) (cuts := false) t.h177 t.ww (fun _ _ => rfl) ⟨DG_w.l.1, DG_w.l.2⟩ DG_w.b8 DG_w.c (mo := 3000) (mi := 3000) rfl (by decide)
  rw [fewM_some (show (lv gRows false ⟨[], [], 0⟩).length ≤ 3000 from by rw [show (lv gRows false ⟨[], [], 0⟩).length = 2000 from hll]; decide)] at e1'
  obtain ⟨LS, hLS⟩ : ∃ LS, LS = lv gRows false ⟨[], [], 0⟩ := ⟨_, rfl⟩
  rw [← hLS] at e1'
  have hl2 : LS.length = 2000 := by rw [hLS]; exact hll
  have hli : ((LS.map leafM).length : Int) = 2000 := by rw [List.length_map, hl2]; rfl
  have hok : ∀ x ∈ LS.map leafM, okL x := by
    intro x hx
    obtain ⟨l, hl, rfl⟩ := List.mem_map.mp hx
    rw [hLS] at hl
    have := lv_st DG_w.c _ (root_ok DG_w.l.1) (Nat.le_refl _) l hl
    exact okL_leaf (Nat.le_trans this (by decide))
  have ei := init_ok (d := d) (M := M.add (.ins 3 [])) t.toTbI DG_w (n := M.nx) (if_pos rfl)
  obtain ⟨M2, hM2⟩ : ∃ M2, M2 = (M.add (.ins 3 [])).put M.nx (.ins 3 (Fs DG)) := ⟨_, rfl⟩
  rw [← hM2] at ei
  have hT : Tk M2 M.nx DG := by rw [hM2]; exact ⟨ob_put, h2⟩
  obtain ⟨k, ek, hk1⟩ : ∃ k : Nat, (2000 : Int) - (if less then 1 else 0) = (k : Int) ∧ k = if less then 1999 else 2000 := by
    cases less
    · exact ⟨2000, rfl, rfl⟩
    · exact ⟨1999, rfl, rfl⟩
  have ct : cutM (LS.map leafM) none (some (2000 - (if less then 1 else 0))) = (LS.take k).map leafM := by rw [cutt' _ ek, List.map_take]
  have tr := tree_ok (d := d + 1) (M := M2) (cuts := false) t.toTbTr DG_w DG_w.c hT (v := .tup ((LS.take k).map leafM)) rfl (by
    intro xs e
    cases e
    refine ⟨by rw [List.length_map, List.length_take]; omega, fun x hx => hok x ?_⟩
    obtain ⟨l, hl, rfl⟩ := List.mem_map.mp hx
    exact List.mem_map.mpr ⟨l, List.mem_of_mem_take hl, rfl⟩)
  have et : treeF (lv DG.rows false ⟨[], [], 0⟩) (.tup ((LS.take k).map leafM)) = !less := by
    show (decide (((LS.take k).map leafM).length ≤ 2000) && holdsF ((LS.take k).map leafM) (lv gRows false ⟨[], [], 0⟩)) = _
    rw [← hLS, decide_eq_true (by rw [List.length_map, List.length_take]; omega), Bool.true_and]
    have := holds_take (LS.take k) (LS.drop k)
    rw [List.take_append_drop] at this
    rw [this]
    cases less with
    | true =>
      have : (LS.drop k).length = 1 := by rw [List.length_drop, hl2, hk1]; rfl
      match hd : LS.drop k, this with
      | [_], _ => rfl
    | false =>
      have : (LS.drop k).length = 0 := by rw [List.length_drop, hl2, hk1]; rfl
      match hd : LS.drop k, this with
      | [], _ => rfl
  rw [et] at tr
  have sy := says_ok (d := d + 5) (M := M2) t.h176 (!less) (!less)
  refine sat_call [some (.v (.bl less)), none, none, none, none] t.h181 rfl rfl ?_
  simp only [fdGreat]
  refine sat_next (ρ1 := [some (.v (.bl less)), some (.ol (([] : List Row).map rowM)), none, none, none]) (M1 := M) (by simp_arith [evSs]; rfl) ?_
  refine sat_fors (v := .lst .fz (gm.zipIdx.map fun p => .tup [.int (p.2 : Int), natM p.1])) (M1 := M) (fun p : Nat × Nat => .tup [.int (p.2 : Int), natM p.1]) gm.zipIdx (fun ys ρ M' => M' = M ∧ ∃ (ps : List (Nat × Nat)) (y2 y3 : Option SV), ρ = [some (.v (.bl less)), some (.ol ((ps.map gRow).map rowM)), y2, y3, none] ∧ gm.zipIdx = ps ++ ys) ?_ rfl ?_ ?_ ?_
  · have e : evBi .enum [.lst .nw [MV.int 2, .int 2, .int 2, .int 2, .int 5, .int 5, .int 5]] = some (.lst .nw (gm.zipIdx.map fun p => .tup [.int (p.2 : Int), natM p.1])) := rfl
    simp_arith [bi_enum, e]
  · exact ⟨rfl, [], none, none, rfl, rfl⟩
  · rintro ⟨m, k⟩ ys ρ M' ⟨rfl, ps, y2, y3, rfl, hp⟩
    have hm : (m, k) ∈ gm.zipIdx := by rw [hp]; exact List.mem_append.mpr (.inr (List.mem_cons_self ..))
    have hm5 : 1 ≤ m ∧ m ≤ 1000 := by
      have : m ∈ gm := List.mem_of_getElem? (zip_mem hm)
      simp only [gm, List.mem_cons, List.not_mem_nil, or_false] at this
      omega
    have hlen : ps.length < 10 := by
      have := congrArg List.length hp
      rw [List.length_zipIdx, List.length_append, List.length_cons] at this
      have h7 : gm.length = 7 := rfl
      omega
    have rp := rep_tup (.tup [.int 1, .int ((k : Int) + 1)]) m hm5
    have hzz : ((ps.map gRow).map rowM).length < SZ := by rw [List.length_map, List.length_map]; show _ < 16777216; omega
    have hpu : (ps.map gRow).map rowM ++ [.tup [.tup (List.replicate m (.tup [.int 1, .int ((k : Int) + 1)])), .bl false, .int (k : Int), .int 0, .bl false]] = ((ps ++ [(m, k)]).map gRow).map rowM := by
      rw [List.map_append, List.map_append]
      congr 1
      show [_] = [rowM (gRow (m, k))]
      unfold rowM gRow nextsM
      rw [List.map_replicate]
      rfl
    refine ⟨[some (.v (.bl less)), some (.ol ((ps.map gRow).map rowM)), some (.v (.int (k : Int))), some (.v (.int (m : Int))), none], by simp only [bindG, bindGs]; rfl, ?_⟩
    refine sat_next (ρ1 := [some (.v (.bl less)), some (.ol (((ps ++ [(m, k)]).map gRow).map rowM)), some (.v (.int (k : Int))), some (.v (.int (m : Int))), none]) (M1 := M') (by simp_arith [rp, hzz, hpu]) ?_
    exact sat_nil ⟨rfl, _, _, _, rfl, by rw [hp, List.append_assoc]; rfl⟩
  · rintro ρ M' ⟨rfl, ps, y2, y3, rfl, hp⟩
    rw [List.append_nil] at hp
    subst hp
    have hzz : ((gm.zipIdx.map gRow).map rowM).length < SZ := by show 7 < 16777216; decide
    have hpu : (gm.zipIdx.map gRow).map rowM ++ [.tup [.tup [], .bl true, .int 7, .int 0, .bl false]] = gRows.map rowM := by
      unfold gRows
      rw [List.map_append (l₂ := [_])]; rfl
    generalize hA : (gm.zipIdx.map gRow).map rowM = A at *
    refine sat_next (ρ1 := [some (.v (.bl less)), some (.ol (gRows.map rowM)), y2, y3, none]) (M1 := M') (by simp_arith [hzz, hpu]) ?_
    refine sat_next (ρ1 := [some (.v (.bl less)), some (.v (.lst .fz (gRows.map rowM))), y2, y3, none]) (M1 := M') (by simp_arith [evSs]) ?_
    refine sat_next (ρ1 := [some (.v (.bl less)), some (.v (.lst .fz (gRows.map rowM))), y2, y3, some (.v (.tup (LS.map leafM)))]) (M1 := M') (by simp_arith [e1']) ?_
    have er : MV.tup (gRows.map rowM) = rowsM DG.rows := rfl
    have ei : evC T (d + 6) 58 [.ref M'.nx, rowsM DG.rows, .tup [], .non, .non] (M'.add (.ins 3 [])) = .ok .non M2 := ei
    have tr : evC T (d + 6) 175 [.ref M'.nx, .tup ((LS.take k).map leafM), .bl false] M2 = .ok (.bl !less) M2 := tr
    simp_arith [hli, c_eqi, beq_self_eq_true, er, fr_rows, t.i3, fill_t, fill_f, ei, bi_intQ, int_b, ct, tr, sy, List.filter_cons, List.filter_nil, Option.isNone_none, Option.isNone_some, eq_self, and_self, beq_self_eq_true]
    exact sat_ok (by cases less <;> rfl)
theorem law24_ok {T : Tab} (t : TbK24 T) (h182 : T.fn 182 = some fdLaw24) {ns : List Int} (hn : ns.length ≤ 63) : ∃ M, evC T 14 182 [.lst .ro (ns.map MV.int)] ⟨0, fun _ => none⟩ = .ok (.bl true) M := by
  obtain ⟨_, M1, e1, rfl, hD1, hn1, ho1⟩ := deck_ok (d := 12) t.h23 (Nat.lt_trans (by decide) t.ww) hn
  have key : (evC T 14 182 [.lst .ro (ns.map MV.int)] ⟨0, fun _ => none⟩).Sat fun v _ => v = .bl true := by
    refine sat_call [some (.v (.lst .ro (ns.map .int))), none, none, none, none, none, none, none, none, none, none] h182 rfl rfl ?_
    simp only [fdLaw24]
    refine sat_next (ρ1 := [some (.v (.lst .ro (ns.map .int))), some (.v (.ref 1)), none, none, none, none, none, none, none, none, none]) (M1 := M1) (by simp_arith [e1]) ?_
    refine sat_fors (v := .lst .fz (rangeL 0 2)) (M1 := M1) natM (List.range 2) (fun xs ρ M' => xs.length ≤ 2 ∧ Dk M' (1000 * (2 - xs.length)) ∧ 2 ≤ M'.nx ∧ ∃ y2 y3 y4 y5 y6 y7 y8 y9 y10 : Option SV, ρ = [some (.v (.lst .ro (ns.map .int))), some (.v (.ref 1)), y2, y3, y4, y5, y6, y7, y8, y9, y10]) (by simp_arith [bi_r1, l_r1 2 (by decide)]) (by rw [show (2 : Int) = ((2 : Nat) : Int) from rfl, rangeL_nat]; rfl) ?_ ?_ ?_
    · exact ⟨Nat.le_refl _, hD1.mono (Nat.zero_le _), by omega, none, none, none, none, none, none, none, none, none, rfl⟩
    · rintro w xs ρ M' ⟨hl2, hK, hx2, y2, y3, y4, y5, y6, y7, y8, y9, y10, rfl⟩
      rw [List.length_cons] at hl2 hK
      obtain ⟨_, M2, e2, D0, rfl, hS0, hL0, hD2, hO2⟩ := few_ok (d := 9) (mo := 400) (mi := 400) t rfl (by decide) hK (by omega)
      refine ⟨[some (.v (.lst .ro (ns.map .int))), some (.v (.ref 1)), some (.v (natM w)), y3, y4, y5, y6, y7, y8, y9, y10], rfl, ?_⟩
      refine sat_next (ρ1 := [some (.v (.lst .ro (ns.map .int))), some (.v (.ref 1)), some (.v (natM w)), some (.v (datM D0)), y4, y5, y6, y7, y8, y9, y10]) (M1 := M2) (by simp_arith [e2, fr_dat]) ?_
      obtain ⟨_, M3, e3, n3, rfl, hn3, hD3, hO3⟩ := next_ok (d := 12) t.h24 hD2 (by omega)
      refine sat_set (fun ρ1 M4 => ∃ (D : Dat) (y4 : Option SV), ρ1 = [some (.v (.lst .ro (ns.map .int))), some (.v (.ref 1)), some (.v (natM w)), some (.v (datM D)), y4, y5, y6, y7, y8, y9, y10] ∧ D.Sm 2003 ∧ (lv0 D.rows false).length ≤ 400 ∧ Dk M4 (1000 * (2 - (xs.length + 1)) + 200) ∧ M4.nx = M'.nx) ?_ ?_
      · cases h4 : (n3 % 4 == 0) with
        | false =>
          simp_arith [e3, b_mod n3 4 (by decide), c_eqi, h4]
          exact sat_ok ⟨rfl, D0, y4, rfl, hS0.mono (by decide), hL0, hD3.mono (by omega), hO3.nx.trans hO2.nx⟩
        | true =>
          obtain ⟨_, M4, e4, k4, r4, rfl, hS4, hD4, hO4⟩ := nudged_ok (d := 11) t.h165 t.h24 hS0 (by decide) hD3 (by omega)
          have e5 := leavesD_ok (d := 12) (M := M4) t hS4.w (cuts := false) (mo := 400) (mi := 400) rfl (by decide)
          generalize ({ D0 with rows := D0.rows.set k4 r4 } : Dat) = D4 at e4 hS4 e5
          by_cases c : (lv0 D4.rows false).length ≤ 400
          · simp_arith [e3, b_mod n3 4 (by decide), c_eqi, h4, fr_dat, e4, dr_dat, fr_rows, e5, dr_few, c_notNQ, fewM_non, decide_eq_false (show ¬ ¬ (lv0 D4.rows false).length ≤ 400 from fun z => z c), Bool.not_false]
            exact sat_ok ⟨rfl, _, _, rfl, hS4, c, hD4.mono (by omega), hO4.nx.trans (hO3.nx.trans hO2.nx)⟩
          · simp_arith [e3, b_mod n3 4 (by decide), c_eqi, h4, fr_dat, e4, dr_dat, fr_rows, e5, dr_few, c_notNQ, fewM_non, decide_eq_true c, Bool.not_true]
            exact sat_ok ⟨rfl, D0, _, rfl, hS0.mono (by decide), hL0, hD4.mono (by omega), hO4.nx.trans (hO3.nx.trans hO2.nx)⟩
      rintro _ M4 ⟨D, y4, rfl, hS, hLf, hD4, hx4⟩
      have hW := hS.w
      have hLt : (lv0 D.rows true).length ≤ 400 := Nat.le_trans (lv_cut_le hW.c _ (root_ok hW.l.1) (Nat.le_refl _)) hLf
      have h1f : 1 ≤ (lv0 D.rows false).length := lv_ne' hW.c _ (root_ok hW.l.1) (Nat.le_refl _)
      have h1t : 1 ≤ (lv0 D.rows true).length := lv_ne' hW.c _ (root_ok hW.l.1) (Nat.le_refl _)
      have hst : ∀ c : Bool, ∀ l ∈ lv0 D.rows c, l.1.length ≤ 24 := fun c l hl => Nat.le_trans (lv_st hW.c _ (root_ok hW.l.1) (Nat.le_refl _) l hl) hW.l.2
      have e6 := told_ok (d := 6) (M := M4) t.toTbI t.h76 t.i3 hW
      obtain ⟨r, hr⟩ : ∃ r, r = M4.nx := ⟨_, rfl⟩
      obtain ⟨M6, hM6⟩ : ∃ M6, M6 = (M4.add (.ins 3 [])).put M4.nx (.ins 3 (Fs D)) := ⟨_, rfl⟩
      rw [← hM6, ← hr] at e6
      have hT6 : Tk M6 r D := by rw [hM6, hr]; exact ⟨ob_put, by omega⟩
      have hx6 : 2 ≤ M6.nx := by rw [hM6]; show 2 ≤ M4.nx + 1; omega
      have hD6 : Dk M6 (1000 * (2 - (xs.length + 1)) + 200) := by rw [hM6]; exact hD4.made (by omega) _ _
      have lf0 := leavesD_ok (d := 12) (M := M6) t hW (cuts := false) (mo := 400) (mi := 400) rfl (by decide)
      have lf1 := leavesD_ok (d := 12) (M := M6) t hW (cuts := true) (mo := 400) (mi := 400) rfl (by decide)
      rw [fewM_some hLf] at lf0
      rw [fewM_some hLt] at lf1
      obtain ⟨L0, hL0e⟩ : ∃ L, L = lv0 D.rows false := ⟨_, rfl⟩
      obtain ⟨L1, hL1e⟩ : ∃ L, L = lv0 D.rows true := ⟨_, rfl⟩
      rw [← hL0e] at lf0 hLf h1f
      rw [← hL1e] at lf1 hLt h1t
      have hst0 : ∀ l ∈ L0, l.1.length ≤ 24 := by rw [hL0e]; exact hst false
      have hst1 : ∀ l ∈ L1, l.1.length ≤ 24 := by rw [hL1e]; exact hst true
      refine sat_next (ρ1 := [some (.v (.lst .ro (ns.map .int))), some (.v (.ref 1)), some (.v (natM w)), some (.v (datM D)), y4, some (.v (.ref r)), y6, y7, y8, y9, y10]) (M1 := M6) (by simp_arith [fr_dat, e6]) ?_
      refine sat_next (ρ1 := [some (.v (.lst .ro (ns.map .int))), some (.v (.ref 1)), some (.v (natM w)), some (.v (datM D)), y4, some (.v (.ref r)), some (.v (.lst .fz [.tup (L0.map leafM), .tup (L1.map leafM)])), y7, y8, y9, y10]) (M1 := M6) ?_ ?_
      · simp_arith [evSs]
        rw [show [MV.bl false, .bl true] = [false, true].map MV.bl from rfl, lc_map (φ := MV.bl) (fun c : Bool => some (.tup ((if c then L1 else L0).map leafM))) ?_ (by decide)]
        · simp_arith [K13.fm_some]
        · intro c _
          cases c <;> simp_arith [dr_dat, fr_rows, lf0, lf1]
      refine sat_fors (v := .lst .fz (rangeL 0 6)) (M1 := M6) natM (List.range 6) (fun zs ρ M' => zs.length ≤ 6 ∧ Dk M' (1000 * (2 - (xs.length + 1)) + 200 + (6 - zs.length)) ∧ Off M6 M' ∧ ∃ y7 y8 y9 y10 : Option SV, ρ = [some (.v (.lst .ro (ns.map .int))), some (.v (.ref 1)), some (.v (natM w)), some (.v (datM D)), y4, some (.v (.ref r)), some (.v (.lst .fz [.tup (L0.map leafM), .tup (L1.map leafM)])), y7, y8, y9, y10]) (by simp_arith [bi_r1, l_r1 6 (by decide)]) (by rw [show (6 : Int) = ((6 : Nat) : Int) from rfl, rangeL_nat]; rfl) ?_ ?_ ?_
      · exact ⟨by rw [List.length_range]; exact Nat.le_refl _, hD6, Off.refl _, y7, y8, y9, y10, rfl⟩
      · rintro k zs ρ M7 ⟨hl6, hD7, hO7, y7, y8, y9, y10, rfl⟩
        rw [List.length_cons] at hl6 hD7
        obtain ⟨LL, hat, hLL1, hLL2, hLL3⟩ : ∃ LL : List Lf, atM [MV.tup (L0.map leafM), .tup (L1.map leafM)] ((k : Int) % 2) = some (.tup (LL.map leafM)) ∧ 1 ≤ LL.length ∧ LL.length ≤ 450 ∧ ∀ l ∈ LL, l.1.length ≤ 24 := by
          have h0 := Int.emod_nonneg (k : Int) (show (2 : Int) ≠ 0 by decide)
          have h1 := Int.emod_lt_of_pos (k : Int) (show (0 : Int) < 2 by decide)
          generalize (k : Int) % 2 = q at h0 h1
          obtain rfl | rfl : q = 0 ∨ q = 1 := by omega
          · exact ⟨L0, rfl, h1f, by omega, hst0⟩
          · exact ⟨L1, rfl, h1t, by omega, hst1⟩
        refine ⟨[some (.v (.lst .ro (ns.map .int))), some (.v (.ref 1)), some (.v (natM w)), some (.v (datM D)), y4, some (.v (.ref r)), some (.v (.lst .fz [.tup (L0.map leafM), .tup (L1.map leafM)])), y7, some (.v (natM k)), y9, y10], rfl, ?_⟩
        refine sat_next (ρ1 := [some (.v (.lst .ro (ns.map .int))), some (.v (.ref 1)), some (.v (natM w)), some (.v (datM D)), y4, some (.v (.ref r)), some (.v (.lst .fz [.tup (L0.map leafM), .tup (L1.map leafM)])), y7, some (.v (natM k)), some (.v (.tup (LL.map leafM))), y10]) (M1 := M7) (by simp_arith [natM, b_mod (k : Int) 2 (by decide), hat]) ?_
        refine sat_set (fun ρ1 M8 => ∃ x : MV, okTh x ∧ ρ1 = [some (.v (.lst .ro (ns.map .int))), some (.v (.ref 1)), some (.v (natM w)), some (.v (datM D)), y4, some (.v (.ref r)), some (.v (.lst .fz [.tup (L0.map leafM), .tup (L1.map leafM)])), y7, some (.v (natM k)), some (.v (x)), y10] ∧ Dk M8 (1000 * (2 - (xs.length + 1)) + 200 + (6 - zs.length)) ∧ Off M6 M8) ?_ ?_
        · by_cases c : (1 : Int) < (k : Int)
          · obtain ⟨x, M8, e8, hx, hD8, hO8⟩ := other_ok (d := 11) t.h179 t.h24 ⟨hLL1, hLL2⟩ hLL3 hD7 (by omega)
            simp_arith [natM, decide_eq_true c, e8, pl_frz hx.pl]
            exact sat_ok ⟨rfl, x, hx, rfl, hD8.mono (by omega), hO7.trans hO8⟩
          · simp_arith [natM, decide_eq_false c]
            exact sat_ok ⟨rfl, _, okTh_t (by rw [List.length_map]; omega) (by intro x hx; obtain ⟨l, hl, rfl⟩ := List.mem_map.mp hx; exact okL_leaf (by have := hLL3 l hl; omega)), rfl, hD7.mono (by omega), hO7⟩
        rintro _ M8 ⟨x, hx, rfl, hD8, hO8⟩
        have hT8 := hT6.off hO8
        have hx2' : ∀ xs, x = .tup xs → xs.length ≤ 1000000 ∧ ∀ x ∈ xs, okL x := fun ys e => ⟨by have := (hx.t ys e).1; omega, (hx.t ys e).2⟩
        have t0 := tree_ok (d := 8) (M := M8) (cuts := false) t.toTbTr hW hW.c hT8 hx.pl hx2'
        have t1 := tree_ok (d := 8) (M := M8) (cuts := true) t.toTbTr hW hW.c hT8 hx.pl hx2'
        rw [show lv D.rows false ⟨[], [], 0⟩ = L0 from hL0e.symm] at t0
        rw [show lv D.rows true ⟨[], [], 0⟩ = L1 from hL1e.symm] at t1
        have s0 := same_ok (d := 12) (M := M8) t.h180 hx (ls := L0) (by omega)
        have s1 := same_ok (d := 12) (M := M8) t.h180 hx (ls := L1) (by omega)
        generalize treeF L0 x = b0 at t0 s0
        generalize treeF L1 x = b1 at t1 s1
        have y0 := says_ok (d := 12) (M := M8) t.h176 b0 b0
        have y1 := says_ok (d := 12) (M := M8) t.h176 b1 b1
        rw [beq_self_eq_true] at y0 y1
        refine sat_next (ρ1 := [some (.v (.lst .ro (ns.map .int))), some (.v (.ref 1)), some (.v (natM w)), some (.v (datM D)), y4, some (.v (.ref r)), some (.v (.lst .fz [.tup (L0.map leafM), .tup (L1.map leafM)])), y7, some (.v (natM k)), some (.v (x)), y10]) (M1 := M8) (by simp_arith [pl_frz hx.pl, fill_f, t0, s0, y0, List.filter_cons, List.filter_nil, Option.isNone_none, Option.isNone_some, eq_self, and_self, Bool.not_true]) ?_
        refine sat_fors (v := .lst .fz [.bl false, .bl true]) (M1 := M8) MV.bl [false, true] (fun cs ρ M' => M' = M8 ∧ ∃ y7 y10 : Option SV, ρ = [some (.v (.lst .ro (ns.map .int))), some (.v (.ref 1)), some (.v (natM w)), some (.v (datM D)), y4, some (.v (.ref r)), some (.v (.lst .fz [.tup (L0.map leafM), .tup (L1.map leafM)])), y7, some (.v (natM k)), some (.v (x)), y10]) (by simp_arith [evSs]) rfl ?_ ?_ ?_
        · exact ⟨rfl, y7, y10, rfl⟩
        · rintro c cs ρ M' ⟨rfl, y7, y10, rfl⟩
          refine ⟨[some (.v (.lst .ro (ns.map .int))), some (.v (.ref 1)), some (.v (natM w)), some (.v (datM D)), y4, some (.v (.ref r)), some (.v (.lst .fz [.tup (L0.map leafM), .tup (L1.map leafM)])), some (.v (.bl c)), some (.v (natM k)), some (.v (x)), y10], rfl, ?_⟩
          cases c with
          | false =>
            have i0 : atM [MV.tup (L0.map leafM), .tup (L1.map leafM)] (if false = true then 1 else 0) = some (.tup (L0.map leafM)) := rfl
            refine sat_next (ρ1 := [some (.v (.lst .ro (ns.map .int))), some (.v (.ref 1)), some (.v (natM w)), some (.v (datM D)), y4, some (.v (.ref r)), some (.v (.lst .fz [.tup (L0.map leafM), .tup (L1.map leafM)])), some (.v (.bl false)), some (.v (natM k)), some (.v (x)), some (.v (.bl b0))]) (M1 := M') (by simp_arith [pl_frz hx.pl, bi_intQ, int_b, i0, s0]) ?_
            refine sat_next (ρ1 := [some (.v (.lst .ro (ns.map .int))), some (.v (.ref 1)), some (.v (natM w)), some (.v (datM D)), y4, some (.v (.ref r)), some (.v (.lst .fz [.tup (L0.map leafM), .tup (L1.map leafM)])), some (.v (.bl false)), some (.v (natM k)), some (.v (x)), some (.v (.bl b0))]) (M1 := M') (by simp_arith [pl_frz hx.pl, fill_x, t0, y0, List.filter_cons, List.filter_nil, Option.isNone_none, Option.isNone_some, eq_self, and_self, Bool.not_true]) ?_
            exact sat_nil ⟨rfl, _, _, rfl⟩
          | true =>
            have i1 : atM [MV.tup (L0.map leafM), .tup (L1.map leafM)] (if true = true then 1 else 0) = some (.tup (L1.map leafM)) := rfl
            refine sat_next (ρ1 := [some (.v (.lst .ro (ns.map .int))), some (.v (.ref 1)), some (.v (natM w)), some (.v (datM D)), y4, some (.v (.ref r)), some (.v (.lst .fz [.tup (L0.map leafM), .tup (L1.map leafM)])), some (.v (.bl true)), some (.v (natM k)), some (.v (x)), some (.v (.bl b1))]) (M1 := M') (by simp_arith [pl_frz hx.pl, bi_intQ, int_b, i1, s1]) ?_
            refine sat_next (ρ1 := [some (.v (.lst .ro (ns.map .int))), some (.v (.ref 1)), some (.v (natM w)), some (.v (datM D)), y4, some (.v (.ref r)), some (.v (.lst .fz [.tup (L0.map leafM), .tup (L1.map leafM)])), some (.v (.bl true)), some (.v (natM k)), some (.v (x)), some (.v (.bl b1))]) (M1 := M') (by simp_arith [pl_frz hx.pl, fill_x, t1, y1, List.filter_cons, List.filter_nil, Option.isNone_none, Option.isNone_some, eq_self, and_self, Bool.not_true]) ?_
            exact sat_nil ⟨rfl, _, _, rfl⟩
        · rintro ρ M' ⟨rfl, y7, y10, rfl⟩
          exact sat_nil ⟨by omega, hD8, hO8, _, _, _, _, rfl⟩
      · rintro ρ M7 ⟨hl6, hD7, hO7, y7, y8, y9, y10, rfl⟩
        exact sat_nil ⟨by omega, hD7.mono (by rw [List.length_nil]; omega), by rw [hO7.nx]; exact hx6, _, _, _, _, _, _, _, _, _, rfl⟩
    · rintro ρ M' ⟨_, hK, hx2, y2, y3, y4, y5, y6, y7, y8, y9, y10, rfl⟩
      obtain ⟨_, M3, e3, n3, rfl, hn3, hD3, hO3⟩ := next_ok (d := 12) t.h24 hK (by decide)
      obtain ⟨_, M4, e4, rfl⟩ := great_ok (d := 6) t (n3 % 2 == 0) hD3 (by rw [hO3.nx]; exact hx2)
      simp_arith [e3, b_mod n3 2 (by decide), c_eqi, e4]
      exact sat_ok rfl
  obtain ⟨_, M, e, rfl⟩ := key
  exact ⟨M, e⟩
end
end TK
end Q

namespace Q
open PySem L2
namespace seekways_k24_trees
def top (i : Nat) : Stmt := PySem.Challenge.pw_seekways_k24_trees.main.body.getD i (.Pass ⟨0, 0, 0, 0⟩)
/-- is_whole -/
def fd1 : Fd := ⟨1, 1, [.ret (.andd (.isin (.var 0) .int) (.nt (.isin (.var 0) .bool)))]⟩
abbrev st1 : Stmt := top 2
def N1 : List Str := ["thing"]
/-- is_from -/
def fd49 : Fd := ⟨3, 3, [.ret (.andd (.call 1 (.cons (.var 0) (.nil))) (.chain .le .le (.var 1) (.var 0) (.var 2)))]⟩
abbrev st49 : Stmt := top 3
def N49 : List Str := ["thing", "low", "high"]
/-- way_of -/
def fd161 : Fd := ⟨2, 4, [.own 2 (.lst (.cons (.meth (.var 0) 11 (.nil)) (.nil))), .forr (.nm 3) (.var 1) [.app 2 (.idx (.idx (.meth (.var 0) 8 (.cons (.idx (.var 2) (.neg (.con (.int 1)))) (.nil))) (.var 3)) (.con (.int 1)))], .ret (.bi .tuple (.cons (.var 2) (.nil)))]⟩
abbrev st161 : Stmt := top 5
def N161 : List Str := ["task", "steps", "found", "step"]
/-- end_of -/
def fd171 : Fd := ⟨3, 4, [.set 3 (.idx (.var 1) (.neg (.con (.int 1)))), .iff (.meth (.var 0) 3 (.cons (.var 3) (.nil))) [.ret (.con (.str "done"))] [], .iff (.cmp .inn (.var 3) (.sl (.var 1) (.noE) (.neg (.con (.int 1))))) [.ret (.con (.str "round"))] [], .iff (.andd (.var 2) (.meth (.var 0) 6 (.cons (.var 3) (.nil)))) [.ret (.con (.str "cut"))] [], .ret (.ite (.cmp .eq (.meth (.var 0) 8 (.cons (.var 3) (.nil))) (.tup (.nil))) (.con (.str "none")) (.con (.non)))]⟩
abbrev st171 : Stmt := top 8
def N171 : List Str := ["task", "way", "cuts", "here"]
/-- leaf_behind -/
def fd172 : Fd := ⟨3, 5, [.set 3 (.call 161 (.cons (.var 0) (.cons (.var 1) (.nil)))), .set 4 (.call 171 (.cons (.var 0) (.cons (.var 3) (.cons (.var 2) (.nil))))), .whl (.cmp .isN (.var 4) (.con (.non))) [.set 1 (.bin .add (.var 1) (.tup (.cons (.con (.int 0)) (.nil)))), .set 3 (.bin .add (.var 3) (.tup (.cons (.idx (.idx (.meth (.var 0) 8 (.cons (.idx (.var 3) (.neg (.con (.int 1)))) (.nil))) (.con (.int 0))) (.con (.int 1))) (.nil)))), .set 4 (.call 171 (.cons (.var 0) (.cons (.var 3) (.cons (.var 2) (.nil)))))], .ret (.tup (.cons (.var 1) (.cons (.var 4) (.nil))))]⟩
abbrev st172 : Stmt := top 9
def N172 : List Str := ["task", "steps", "cuts", "way", "why"]
/-- steps_behind -/
def fd173 : Fd := ⟨2, 4, [.set 2 (.call 161 (.cons (.var 0) (.cons (.var 1) (.nil)))), .forr (.nm 3) (.bi .range3 (.cons (.bin .sub (.bi .len (.cons (.var 1) (.nil))) (.con (.int 1))) (.cons (.neg (.con (.int 1))) (.cons (.neg (.con (.int 1))) (.nil))))) [.iff (.cmp .lt (.bin .add (.idx (.var 1) (.var 3)) (.con (.int 1))) (.bi .len (.cons (.meth (.var 0) 8 (.cons (.idx (.var 2) (.var 3)) (.nil))) (.nil)))) [.ret (.bin .add (.sl (.var 1) (.noE) (.var 3)) (.tup (.cons (.bin .add (.idx (.var 1) (.var 3)) (.con (.int 1))) (.nil))))] []], .ret (.con (.non))]⟩
abbrev st173 : Stmt := top 10
def N173 : List Str := ["task", "steps", "way", "at"]
/-- is_leaf -/
def fd174 : Fd := ⟨2, 3, [.iff (.orr (.nt (.isin (.var 0) .tup)) (.orr (.cmp .ne (.bi .len (.cons (.var 0) (.nil))) (.con (.int 2))) (.nt (.isin (.idx (.var 0) (.con (.int 0))) .tup)))) [.ret (.con (.bl false))] [], .ret (.andd (.bi .all (.cons (.lc (.call 1 (.cons (.var 2) (.nil))) [2] (.nm 2) (.idx (.var 0) (.con (.int 0))) (.con (.bl true))) (.nil))) (.andd (.isin (.idx (.var 0) (.con (.int 1))) .str) (.cmp .eq (.var 0) (.var 1))))]⟩
abbrev st174 : Stmt := top 11
def N174 : List Str := ["thing", "leaf", "step"]
/-- tree_holds -/
def fd175 : Fd := ⟨3, 6, [.iff (.orr (.nt (.isin (.var 1) .tup)) (.cmp .gt (.bi .len (.cons (.var 1) (.nil))) (.con (.int 2000)))) [.ret (.con (.bl false))] [], .set 3 (.tup (.nil)), .forr (.nm 4) (.var 1) [.iff (.cmp .isN (.var 3) (.con (.non))) [.ret (.con (.bl false))] [], .set 5 (.call 172 (.cons (.var 0) (.cons (.var 3) (.cons (.var 2) (.nil))))), .iff (.nt (.call 174 (.cons (.var 4) (.cons (.var 5) (.nil))))) [.ret (.con (.bl false))] [], .set 3 (.call 173 (.cons (.var 0) (.cons (.idx (.var 5) (.con (.int 0))) (.nil))))], .ret (.cmp .isN (.var 3) (.con (.non)))]⟩
abbrev st175 : Stmt := top 12
def N175 : List Str := ["task", "thing", "cuts", "steps", "one", "leaf"]
/-- Task.start -/
def fd4 : Fd := ⟨1, 1, [.ret (.tup (.cons (.con (.int 0)) (.nil)))]⟩
abbrev st4 : Stmt := inClass (top 17) 0
def N4 : List Str := ["self"]
/-- are_pairs -/
def fd51 : Fd := ⟨3, 4, [.iff (.orr (.nt (.isin (.var 0) .tup)) (.cmp .gt (.bi .len (.cons (.var 0) (.nil))) (.var 1))) [.ret (.con (.bl false))] [], .forr (.nm 3) (.var 0) [.iff (.orr (.nt (.isin (.var 3) .tup)) (.cmp .ne (.bi .len (.cons (.var 3) (.nil))) (.con (.int 2)))) [.ret (.con (.bl false))] [], .iff (.orr (.nt (.call 49 (.cons (.idx (.var 3) (.con (.int 0))) (.cons (.con (.int 0)) (.cons (.con (.int 1000)) (.nil)))))) (.nt (.call 49 (.cons (.idx (.var 3) (.con (.int 1))) (.cons (.con (.int 0)) (.cons (.bin .sub (.var 2) (.con (.int 1))) (.nil))))))) [.ret (.con (.bl false))] []], .ret (.con (.bl true))]⟩
abbrev st51 : Stmt := top 26
def N51 : List Str := ["thing", "most", "many", "pair"]
/-- is_told_row -/
def fd52 : Fd := ⟨2, 7, [.iff (.orr (.nt (.isin (.var 0) .tup)) (.orr (.cmp .ne (.bi .len (.cons (.var 0) (.nil))) (.con (.int 5))) (.nt (.call 51 (.cons (.idx (.var 0) (.con (.int 0))) (.cons (.con (.int 8)) (.cons (.var 1) (.nil)))))))) [.ret (.con (.bl false))] [], .asg (.tup [.nm 2, .nm 3, .nm 4, .nm 5, .nm 6]) (.var 0), .iff (.orr (.nt (.isin (.var 3) .bool)) (.nt (.isin (.var 6) .bool))) [.ret (.con (.bl false))] [], .ret (.andd (.call 49 (.cons (.var 4) (.cons (.con (.int 0)) (.cons (.con (.int 99)) (.nil))))) (.call 49 (.cons (.var 5) (.cons (.con (.int 0)) (.cons (.con (.int 100000)) (.nil))))))]⟩
abbrev st52 : Stmt := top 27
def N52 : List Str := ["thing", "many", "nexts", "done", "name", "bound", "cut"]
/-- are_numbers -/
def fd53 : Fd := ⟨2, 3, [.ret (.andd (.isin (.var 0) .tup) (.bi .all (.cons (.lc (.call 49 (.cons (.var 2) (.cons (.con (.int 0)) (.cons (.bin .sub (.var 1) (.con (.int 1))) (.nil))))) [2] (.nm 2) (.var 0) (.con (.bl true))) (.nil))))]⟩
abbrev st53 : Stmt := top 28
def N53 : List Str := ["thing", "many", "number"]
/-- look_rows -/
def fd54 : Fd := ⟨1, 3, [.iff (.orr (.nt (.isin (.var 0) .tup)) (.nt (.chain .le .le (.con (.int 1)) (.bi .len (.cons (.var 0) (.nil))) (.con (.int 24))))) [.rais] [], .forr (.tup [.nm 1, .nm 2]) (.bi .enum (.cons (.var 0) (.nil))) [.iff (.nt (.call 52 (.cons (.var 2) (.cons (.bi .len (.cons (.var 0) (.nil))) (.nil))))) [.rais] []]]⟩
abbrev st54 : Stmt := top 29
def N54 : List Str := ["rows", "number", "row"]
/-- look_turns -/
def fd55 : Fd := ⟨2, 4, [.iff (.nt (.isin (.var 0) .tup)) [.rais] [], .forr (.tup [.nm 2, .nm 3]) (.bi .enum (.cons (.var 0) (.nil))) [.iff (.orr (.cmp .eq (.var 2) (.con (.int 3))) (.orr (.nt (.call 53 (.cons (.var 3) (.cons (.var 1) (.nil))))) (.cmp .ne (.bi .len (.cons (.var 3) (.nil))) (.var 1)))) [.rais] []]]⟩
abbrev st55 : Stmt := top 30
def N55 : List Str := ["turns", "many", "number", "turning"]
/-- look_ends -/
def fd56 : Fd := ⟨3, 5, [.iff (.cmp .notN (.var 0) (.con (.non))) [.iff (.orr (.nt (.call 53 (.cons (.var 0) (.cons (.var 2) (.nil))))) (.cmp .ne (.lc (.var 3) [3] (.nm 3) (.bi .range1 (.cons (.bin .sub (.bi .len (.cons (.var 0) (.nil))) (.con (.int 1))) (.nil))) (.cmp .ge (.idx (.var 0) (.var 3)) (.idx (.var 0) (.bin .add (.var 3) (.con (.int 1)))))) (.lst (.nil)))) [.rais] []] [], .iff (.cmp .ne (.cmp .isN (.var 0) (.con (.non))) (.cmp .isN (.var 1) (.con (.non)))) [.rais] [], .iff (.cmp .notN (.var 1) (.con (.non))) [.iff (.orr (.nt (.isin (.var 1) .tup)) (.cmp .ne (.bi .len (.cons (.var 1) (.nil))) (.var 2))) [.rais] [], .iff (.nt (.bi .all (.cons (.lc (.call 51 (.cons (.var 4) (.cons (.con (.int 200)) (.cons (.var 2) (.nil))))) [4] (.nm 4) (.var 1) (.con (.bl true))) (.nil)))) [.rais] []] []]⟩
abbrev st56 : Stmt := top 31
def N56 : List Str := ["ends", "heads", "many", "k", "some"]
/-- as_standings -/
def fd57 : Fd := ⟨1, 3, [.ret (.bi .tuple (.cons (.lc (.tup (.cons (.var 1) (.cons (.tup (.cons (.var 2) (.nil))) (.nil)))) [1, 2] (.tup [.nm 1, .nm 2]) (.var 0) (.con (.bl true))) (.nil)))]⟩
abbrev st57 : Stmt := top 32
def N57 : List Str := ["pairs", "cost", "number"]
/-- Told.__init__ -/
def fd58 : Fd := ⟨5, 5, [.expr (.call 54 (.cons (.var 1) (.nil))), .expr (.call 55 (.cons (.var 2) (.cons (.bi .len (.cons (.var 1) (.nil))) (.nil)))), .expr (.call 56 (.cons (.var 3) (.cons (.var 4) (.cons (.bi .len (.cons (.var 1) (.nil))) (.nil))))), .setF (.var 0) 14 (.var 1), .setF (.var 0) 15 (.var 2), .setF (.var 0) 16 (.var 3), .setF (.var 0) 17 (.var 4)]⟩
abbrev st58 : Stmt := inClass (top 33) 0
def N58 : List Str := ["self", "rows", "turns", "ends", "heads"]
/-- Told.told_row -/
def fd59 : Fd := ⟨2, 2, [.ret (.idx (.fld (.var 0) 14) (.idx (.var 1) (.con (.int 0))))]⟩
abbrev st59 : Stmt := inClass (top 33) 1
def N59 : List Str := ["self", "standing"]
/-- Told.nexts -/
def fd61 : Fd := ⟨2, 2, [.ret (.call 57 (.cons (.idx (.meth (.var 0) 18 (.cons (.var 1) (.nil))) (.con (.int 0))) (.nil)))]⟩
abbrev st61 : Stmt := inClass (top 33) 3
def N61 : List Str := ["self", "standing"]
/-- Told.is_done -/
def fd163 : Fd := ⟨2, 2, [.ret (.idx (.meth (.var 0) 18 (.cons (.var 1) (.nil))) (.con (.int 1)))]⟩
abbrev st163 : Stmt := inClass (top 33) 4
def N163 : List Str := ["self", "standing"]
/-- Told.cut -/
def fd63 : Fd := ⟨2, 2, [.ret (.idx (.meth (.var 0) 18 (.cons (.var 1) (.nil))) (.con (.int 4)))]⟩
abbrev st63 : Stmt := inClass (top 33) 7
def N63 : List Str := ["self", "standing"]
/-- _law_deck -/
def fd23 : Fd := ⟨1, 4, [.own 1 (.lst (.nil)), .shr 1, .own 2 (.lst (.cons (.bi .len (.cons (.var 0) (.nil))) (.nil))), .forr (.nm 3) (.sl (.var 0) (.noE) (.con (.int 63))) [.set 3 (.bi .abs (.cons (.var 3) (.nil))), .app 2 (.bin .mod (.var 3) (.con (.int 2147483629))), .whl (.andd (.cmp .ge (.var 3) (.bin .pow (.con (.int 10)) (.con (.int 18)))) (.cmp .lt (.bi .len (.cons (.var 1) (.nil))) (.con (.int 900)))) [.expr (.bm .append (.var 1) (.cons (.bin .mod (.var 3) (.con (.int 2147483629))) (.nil))), .set 3 (.bin .fdiv (.var 3) (.con (.int 2147483629)))]], .frz 2, .ret (.shr (.lst (.cons (.var 1) (.cons (.var 2) (.cons (.con (.int 0)) (.nil))))))]⟩
abbrev st23 : Stmt := top 35
def N23 : List Str := ["_law_script", "_law_digits", "_law_cells", "_law_cell"]
/-- _law_next -/
def fd24 : Fd := ⟨1, 3, [.iff (.cmp .ne (.idx (.var 0) (.con (.int 0))) (.lst (.nil))) [.ret (.bm .popAt (.idx (.var 0) (.con (.int 0))) (.cons (.con (.int 0)) (.nil)))] [], .set 1 (.idx (.var 0) (.con (.int 2))), .setR (.var 0) (.con (.int 2)) (.bin .add (.var 1) (.con (.int 1))), .set 2 (.bin .add (.idx (.idx (.var 0) (.con (.int 1))) (.bin .mod (.bin .add (.var 1) (.con (.int 1))) (.bi .len (.cons (.idx (.var 0) (.con (.int 1))) (.nil))))) (.bin .mul (.con (.int 7)) (.var 1))), .ret (.bin .mod (.bin .add (.bin .mod (.bin .pow (.bin .add (.var 2) (.bin .mul (.con (.int 48271)) (.bin .add (.var 1) (.con (.int 1))))) (.con (.int 5))) (.con (.int 2147483647))) (.bin .mul (.con (.int 69621)) (.var 2))) (.con (.int 2147483629)))]⟩
abbrev st24 : Stmt := top 36
def N24 : List Str := ["_law_deck_here", "_law_at", "_law_cell"]
/-- _law_classes -/
def fd38 : Fd := ⟨2, 11, [.set 2 (.bin .add (.con (.int 2)) (.bin .mod (.call 24 (.cons (.var 0) (.nil))) (.bin .sub (.var 1) (.con (.int 1))))), .set 3 (.idx (.lst (.cons (.lst (.cons (.con (.int 0)) (.cons (.con (.int 1)) (.cons (.con (.int 1)) (.cons (.con (.int 2)) (.cons (.con (.int 3)) (.cons (.con (.int 5)) (.nil)))))))) (.cons (.lst (.cons (.con (.int 1)) (.cons (.con (.int 1)) (.cons (.con (.int 1)) (.cons (.con (.int 1)) (.nil)))))) (.cons (.lst (.cons (.con (.int 0)) (.cons (.con (.int 0)) (.cons (.con (.int 1)) (.cons (.con (.int 9)) (.nil)))))) (.cons (.lst (.cons (.con (.int 1)) (.cons (.con (.int 2)) (.cons (.con (.int 3)) (.cons (.con (.int 4)) (.cons (.con (.int 7)) (.cons (.con (.int 9)) (.nil)))))))) (.nil)))))) (.bin .mod (.call 24 (.cons (.var 0) (.nil))) (.con (.int 4)))), .own 4 (.lst (.nil)), .forr (.nm 5) (.bi .range1 (.cons (.var 2) (.nil))) [.set 6 (.call 24 (.cons (.var 0) (.nil))), .set 7 (.idx (.lst (.cons (.cmp .eq (.bin .mod (.var 6) (.con (.int 12))) (.con (.int 0))) (.cons (.cmp .eq (.bin .mod (.var 6) (.con (.int 4))) (.con (.int 0))) (.nil)))) (.bi .int (.cons (.cmp .gt (.var 5) (.con (.int 0))) (.nil)))), .own 8 (.lst (.nil)), .forr (.nm 9) (.bi .range1 (.cons (.idx (.lst (.cons (.con (.int 1)) (.cons (.con (.int 2)) (.cons (.con (.int 2)) (.cons (.con (.int 3)) (.cons (.con (.int 0)) (.cons (.con (.int 3)) (.cons (.con (.int 4)) (.nil))))))))) (.bin .mod (.bin .fdiv (.var 6) (.con (.int 12))) (.con (.int 7)))) (.nil))) [.set 10 (.call 24 (.cons (.var 0) (.nil))), .app 8 (.tup (.cons (.idx (.var 3) (.bin .mod (.var 10) (.bi .len (.cons (.var 3) (.nil))))) (.cons (.bin .mod (.bin .fdiv (.var 10) (.con (.int 8))) (.var 2)) (.nil))))], .frz 8, .app 4 (.tup (.cons (.var 7) (.cons (.var 8) (.nil))))], .ret (.var 4)]⟩
abbrev st38 : Stmt := top 37
def N38 : List Str := ["_law_deck_here", "_law_most", "_law_many", "_law_costs", "_law_found", "_law_at", "_law_number", "_law_done", "_law_pairs", "_law_k", "_law_draw"]
/-- _law_rests -/
def fd39 : Fd := ⟨1, 9, [.own 1 (.lc (.idx (.lst (.cons (.con (.non)) (.cons (.con (.int 0)) (.nil)))) (.bi .int (.cons (.idx (.var 2) (.con (.int 0))) (.nil)))) [2] (.nm 2) (.var 0) (.con (.bl true))), .forr (.nm 3) (.var 0) [.forr (.tup [.nm 4, .tup [.nm 5, .nm 6]]) (.bi .enum (.cons (.var 0) (.nil))) [.forr (.tup [.nm 7, .nm 8]) (.var 6) [.iff (.andd (.nt (.var 5)) (.cmp .notN (.idx (.var 1) (.var 8)) (.con (.non)))) [.iff (.orr (.cmp .isN (.idx (.var 1) (.var 4)) (.con (.non))) (.cmp .lt (.bin .add (.var 7) (.idx (.var 1) (.var 8))) (.idx (.var 1) (.var 4)))) [.setI 1 (.var 4) (.bin .add (.var 7) (.idx (.var 1) (.var 8)))] []] []]]], .ret (.var 1)]⟩
abbrev st39 : Stmt := top 38
def N39 : List Str := ["_law_classes_here", "_law_rests_here", "_law_one", "_law_turn", "_law_at", "_law_done", "_law_pairs", "_law_cost", "_law_other"]
/-- _law_ends -/
def fd40 : Fd := ⟨1, 9, [.set 1 (.bi .tuple (.cons (.lc (.var 2) [2, 3] (.tup [.nm 2, .nm 3]) (.bi .enum (.cons (.var 0) (.nil))) (.idx (.var 3) (.con (.int 1)))) (.nil))), .own 4 (.lst (.nil)), .forr (.nm 5) (.bi .range1 (.cons (.bi .len (.cons (.var 0) (.nil))) (.nil))) [.set 6 (.lst (.nil)), .forr (.tup [.nm 2, .nm 3]) (.bi .enum (.cons (.var 0) (.nil))) [.set 6 (.bin .add (.var 6) (.lc (.tup (.cons (.var 7) (.cons (.var 2) (.nil)))) [7, 8] (.tup [.nm 7, .nm 8]) (.idx (.var 3) (.con (.int 0))) (.andd (.cmp .eq (.var 8) (.var 5)) (.nt (.idx (.var 3) (.con (.int 1)))))))], .app 4 (.bi .tuple (.cons (.var 6) (.nil)))], .ret (.tup (.cons (.var 1) (.cons (.bi .tuple (.cons (.var 4) (.nil))) (.nil))))]⟩
abbrev st40 : Stmt := top 39
def N40 : List Str := ["_law_rows", "_law_goals", "_law_at", "_law_row", "_law_tails", "_law_target", "_law_own", "_law_cost", "_law_other"]
/-- _law_small -/
def fd41 : Fd := ⟨2, 22, [.set 2 (.call 38 (.cons (.var 0) (.cons (.var 1) (.nil)))), .set 3 (.call 39 (.cons (.var 2) (.nil))), .set 4 (.call 24 (.cons (.var 0) (.nil))), .set 5 (.bi .len (.cons (.var 2) (.nil))), .set 6 (.bi .maxL (.cons (.bin .add (.lst (.cons (.con (.int 0)) (.nil))) (.lc (.var 7) [7] (.nm 7) (.var 3) (.cmp .notN (.var 7) (.con (.non))))) (.nil))), .own 8 (.lst (.nil)), .forr (.nm 9) (.bi .range1 (.cons (.bin .mul (.con (.int 2)) (.var 5)) (.nil))) [.asg (.tup [.nm 10, .nm 11]) (.idx (.var 2) (.bin .mod (.var 9) (.var 5))), .set 7 (.idx (.var 3) (.bin .mod (.var 9) (.var 5))), .set 12 (.call 24 (.cons (.var 0) (.nil))), .set 13 (.lc (.tup (.cons (.var 15) (.cons (.bin .add (.var 16) (.bin .mul (.var 5) (.bin .mod (.bin .fdiv (.var 12) (.idx (.lst (.cons (.con (.int 2)) (.cons (.con (.int 4)) (.cons (.con (.int 8)) (.cons (.con (.int 16)) (.nil)))))) (.var 14))) (.con (.int 2))))) (.nil)))) [14, 15, 16] (.tup [.nm 14, .tup [.nm 15, .nm 16]]) (.bi .enum (.cons (.var 11) (.nil))) (.con (.bl true))), .set 17 (.var 6), .iff (.cmp .notN (.var 7) (.con (.non))) [.set 17 (.bin .fdiv (.bin .mul (.var 7) (.bin .mod (.var 4) (.con (.int 3)))) (.con (.int 2)))] [], .set 18 (.bin .mod (.var 9) (.bin .mul (.var 5) (.bin .add (.con (.int 1)) (.bin .mod (.bin .fdiv (.var 4) (.con (.int 6))) (.con (.int 2)))))), .app 8 (.tup (.cons (.bi .tuple (.cons (.stp (.var 13) (.bin .sub (.con (.int 1)) (.bin .mul (.con (.int 2)) (.bin .fdiv (.var 9) (.var 5))))) (.nil))) (.cons (.var 10) (.cons (.var 18) (.cons (.var 17) (.cons (.andd (.cmp .eq (.bin .mod (.bin .fdiv (.var 4) (.con (.int 3))) (.con (.int 2))) (.con (.int 1))) (.cmp .isN (.var 7) (.con (.non)))) (.nil)))))))], .set 19 (.idx (.lst (.cons (.tup (.nil)) (.cons (.tup (.cons (.bi .tuple (.cons (.lc (.bin .mod (.bin .add (.var 9) (.var 5)) (.bin .mul (.con (.int 2)) (.var 5))) [9] (.nm 9) (.bi .range1 (.cons (.bin .mul (.con (.int 2)) (.var 5)) (.nil))) (.con (.bl true))) (.nil))) (.nil))) (.nil)))) (.bin .mod (.bin .fdiv (.var 4) (.con (.int 6))) (.con (.int 2)))), .iff (.cmp .eq (.bin .mod (.bin .fdiv (.var 4) (.con (.int 12))) (.con (.int 2))) (.con (.int 0))) [.ret (.tup (.cons (.bi .tuple (.cons (.var 8) (.nil))) (.cons (.var 19) (.cons (.con (.non)) (.cons (.con (.non)) (.nil))))))] [], .frz 8, .asg (.tup [.nm 20, .nm 21]) (.call 40 (.cons (.var 8) (.nil))), .ret (.tup (.cons (.bi .tuple (.cons (.var 8) (.nil))) (.cons (.var 19) (.cons (.var 20) (.cons (.var 21) (.nil))))))]⟩
abbrev st41 : Stmt := top 40
def N41 : List Str := ["_law_deck_here", "_law_most", "_law_classes_here", "_law_rests_here", "_law_number", "_law_many", "_law_greatest", "_law_rest", "_law_rows", "_law_at", "_law_done", "_law_pairs", "_law_bits", "_law_nexts", "_law_k", "_law_cost", "_law_other", "_law_bound", "_law_name", "_law_wheels", "_law_goals", "_law_tails"]
/-- _law_told -/
def fd76 : Fd := ⟨1, 1, [.ret (.mkk 3 1 (.cons (.idx (.var 0) (.con (.int 0))) (.nil)) [none, none, none] (.cons (.idx (.var 0) (.con (.int 1))) (.cons (.idx (.var 0) (.con (.int 2))) (.cons (.idx (.var 0) (.con (.int 3))) (.nil)))))]⟩
abbrev st76 : Stmt := top 41
def N76 : List Str := ["_law_data"]
/-- _law_says -/
def fd176 : Fd := ⟨2, 2, [.ret (.andd (.isin (.var 0) .bool) (.cmp .eq (.var 0) (.var 1)))]⟩
abbrev st176 : Stmt := top 42
def N176 : List Str := ["_law_found", "_law_due"]
/-- _law_nudged -/
def fd165 : Fd := ⟨2, 13, [.asg (.tup [.nm 2, .nm 3, .nm 4, .nm 5]) (.var 1), .set 6 (.call 24 (.cons (.var 0) (.nil))), .set 7 (.bin .mod (.bin .fdiv (.var 6) (.con (.int 8))) (.bi .len (.cons (.var 2) (.nil)))), .asg (.tup [.nm 8, .nm 9, .nm 10, .nm 11, .nm 12]) (.idx (.var 2) (.var 7)), .iff (.cmp .lt (.bin .mod (.var 6) (.con (.int 8))) (.con (.int 3))) [.set 11 (.bi .max2 (.cons (.con (.int 0)) (.cons (.bin .add (.var 11) (.idx (.lst (.cons (.con (.int 1)) (.cons (.neg (.con (.int 1))) (.cons (.con (.int 3)) (.nil))))) (.bin .mod (.var 6) (.con (.int 8))))) (.nil))))] [.iff (.cmp .eq (.bin .mod (.var 6) (.con (.int 8))) (.con (.int 3))) [.set 12 (.nt (.var 12))] [.iff (.cmp .eq (.bin .mod (.var 6) (.con (.int 8))) (.con (.int 4))) [.set 9 (.nt (.var 9))] [.iff (.cmp .eq (.bin .mod (.var 6) (.con (.int 8))) (.con (.int 5))) [.set 10 (.idx (.idx (.var 2) (.bin .mod (.bin .fdiv (.var 6) (.con (.int 512))) (.bi .len (.cons (.var 2) (.nil))))) (.con (.int 2)))] [.set 8 (.bin .add (.sl (.stp (.var 8) (.neg (.con (.int 1)))) (.noE) (.con (.int 3))) (.tup (.cons (.tup (.cons (.bin .mod (.bin .fdiv (.var 6) (.con (.int 512))) (.con (.int 3))) (.cons (.bin .mod (.bin .fdiv (.var 6) (.con (.int 2048))) (.bi .len (.cons (.var 2) (.nil)))) (.nil)))) (.nil))))]]]], .ret (.tup (.cons (.bin .add (.bin .add (.sl (.var 2) (.noE) (.var 7)) (.tup (.cons (.tup (.cons (.var 8) (.cons (.var 9) (.cons (.var 10) (.cons (.var 11) (.cons (.var 12) (.nil))))))) (.nil)))) (.sl (.var 2) (.bin .add (.var 7) (.con (.int 1))) (.noE))) (.cons (.var 3) (.cons (.var 4) (.cons (.var 5) (.nil))))))]⟩
abbrev st165 : Stmt := top 43
def N165 : List Str := ["_law_deck_here", "_law_data", "_law_rows", "_law_wheels", "_law_goals", "_law_tails", "_law_number", "_law_at", "_law_nexts", "_law_done", "_law_name", "_law_bound", "_law_cut"]
/-- _law_leaves -/
def fd177 : Fd := ⟨3, 14, [.own 3 (.lst (.nil)), .own 4 (.lst (.cons (.tup (.cons (.tup (.nil)) (.cons (.tup (.cons (.con (.int 0)) (.nil))) (.nil)))) (.nil))), .whl (.cmp .ne (.var 4) (.lst (.nil))) [.popS (.tup [.nm 5, .nm 6]) 4 none, .asg (.tup [.nm 7, .nm 8, .nm 9, .nm 10, .nm 11]) (.idx (.var 0) (.idx (.var 6) (.neg (.con (.int 1))))), .set 12 (.idx (.lst (.cons (.con (.non)) (.cons (.con (.str "none")) (.nil)))) (.bi .int (.cons (.cmp .eq (.var 7) (.tup (.nil))) (.nil)))), .iff (.andd (.var 1) (.var 11)) [.set 12 (.con (.str "cut"))] [], .iff (.cmp .inn (.idx (.var 6) (.neg (.con (.int 1)))) (.sl (.var 6) (.noE) (.neg (.con (.int 1))))) [.set 12 (.con (.str "round"))] [], .iff (.var 8) [.set 12 (.con (.str "done"))] [], .iff (.cmp .notN (.var 12) (.con (.non))) [.app 3 (.tup (.cons (.var 5) (.cons (.var 12) (.nil))))] [.forr (.nm 13) (.bi .range3 (.cons (.bin .sub (.bi .len (.cons (.var 7) (.nil))) (.con (.int 1))) (.cons (.neg (.con (.int 1))) (.cons (.neg (.con (.int 1))) (.nil))))) [.app 4 (.tup (.cons (.bin .add (.var 5) (.tup (.cons (.var 13) (.nil)))) (.cons (.bin .add (.var 6) (.tup (.cons (.idx (.idx (.var 7) (.var 13)) (.con (.int 1))) (.nil)))) (.nil))))]], .iff (.cmp .gt (.bi .len (.cons (.var 3) (.nil))) (.var 2)) [.ret (.con (.non))] []], .ret (.bi .tuple (.cons (.var 3) (.nil)))]⟩
abbrev st177 : Stmt := top 44
def N177 : List Str := ["_law_rows", "_law_barring", "_law_most", "_law_found", "_law_left", "_law_steps", "_law_way", "_law_nexts", "_law_done", "_law_name", "_law_bound", "_law_cut", "_law_why", "_law_k"]
/-- _law_few -/
def fd178 : Fd := ⟨2, 4, [.forr (.nm 2) (.bi .range1 (.cons (.con (.int 3)) (.nil))) [.set 3 (.call 41 (.cons (.var 0) (.cons (.idx (.lst (.cons (.con (.int 4)) (.cons (.con (.int 3)) (.cons (.con (.int 2)) (.nil))))) (.var 2)) (.nil)))), .iff (.cmp .notN (.call 177 (.cons (.idx (.var 3) (.con (.int 0))) (.cons (.con (.bl false)) (.cons (.var 1) (.nil))))) (.con (.non))) [.ret (.var 3)] []], .ret (.tup (.cons (.tup (.cons (.tup (.cons (.tup (.cons (.tup (.cons (.con (.int 1)) (.cons (.con (.int 1)) (.nil)))) (.nil))) (.cons (.con (.bl false)) (.cons (.con (.int 0)) (.cons (.con (.int 0)) (.cons (.con (.bl false)) (.nil))))))) (.cons (.tup (.cons (.tup (.nil)) (.cons (.con (.bl true)) (.cons (.con (.int 1)) (.cons (.con (.int 0)) (.cons (.con (.bl false)) (.nil))))))) (.nil)))) (.cons (.tup (.nil)) (.cons (.con (.non)) (.cons (.con (.non)) (.nil))))))]⟩
abbrev st178 : Stmt := top 45
def N178 : List Str := ["_law_deck_here", "_law_most", "_law_turn", "_law_data"]
/-- _law_other_tree -/
def fd179 : Fd := ⟨2, 11, [.set 2 (.call 24 (.cons (.var 0) (.nil))), .set 3 (.bin .mod (.var 2) (.con (.int 14))), .set 4 (.bin .mod (.bin .fdiv (.var 2) (.con (.int 14))) (.bi .len (.cons (.var 1) (.nil)))), .asg (.tup [.nm 5, .nm 6]) (.idx (.var 1) (.var 4)), .set 7 (.lst (.cons (.con (.str "done")) (.cons (.con (.str "round")) (.cons (.con (.str "none")) (.cons (.con (.str "cut")) (.cons (.con (.str "")) (.cons (.con (.non)) (.nil)))))))), .own 8 (.lst (.cons (.bin .add (.sl (.var 1) (.noE) (.var 4)) (.sl (.var 1) (.bin .add (.var 4) (.con (.int 1))) (.noE))) (.cons (.bin .add (.sl (.var 1) (.noE) (.bin .add (.var 4) (.con (.int 1)))) (.sl (.var 1) (.var 4) (.noE))) (.cons (.bin .add (.sl (.var 1) (.var 4) (.noE)) (.sl (.var 1) (.noE) (.var 4))) (.cons (.sl (.var 1) (.noE) (.var 4)) (.nil)))))), .own 8 (.bin .add (.var 8) (.lst (.cons (.bin .add (.var 1) (.sl (.var 1) (.noE) (.con (.int 1)))) (.cons (.tup (.nil)) (.cons (.con (.non)) (.cons (.bi .list (.cons (.var 1) (.nil))) (.nil))))))), .app 8 (.bin .add (.bin .add (.sl (.var 1) (.noE) (.var 4)) (.tup (.cons (.tup (.cons (.var 5) (.cons (.idx (.var 7) (.bin .mod (.bin .fdiv (.var 2) (.con (.int 5))) (.con (.int 6)))) (.nil)))) (.nil)))) (.sl (.var 1) (.bin .add (.var 4) (.con (.int 1))) (.noE))), .app 8 (.bin .add (.bin .add (.sl (.var 1) (.noE) (.var 4)) (.tup (.cons (.tup (.cons (.bin .add (.var 5) (.tup (.cons (.con (.int 0)) (.nil)))) (.cons (.var 6) (.nil)))) (.nil)))) (.sl (.var 1) (.bin .add (.var 4) (.con (.int 1))) (.noE))), .app 8 (.bin .add (.bin .add (.sl (.var 1) (.noE) (.var 4)) (.tup (.cons (.tup (.cons (.sl (.var 5) (.noE) (.neg (.con (.int 1)))) (.cons (.var 6) (.nil)))) (.nil)))) (.sl (.var 1) (.bin .add (.var 4) (.con (.int 1))) (.noE))), .forr (.nm 9) (.lst (.cons (.lst (.cons (.var 5) (.cons (.var 6) (.nil)))) (.cons (.tup (.cons (.bi .list (.cons (.var 5) (.nil))) (.cons (.var 6) (.nil)))) (.cons (.tup (.cons (.bi .tuple (.cons (.lc (.cmp .eq (.var 10) (.con (.int 1))) [10] (.nm 10) (.var 5) (.con (.bl true))) (.nil))) (.cons (.var 6) (.nil)))) (.nil))))) [.app 8 (.bin .add (.bin .add (.sl (.var 1) (.noE) (.var 4)) (.tup (.cons (.var 9) (.nil)))) (.sl (.var 1) (.bin .add (.var 4) (.con (.int 1))) (.noE)))], .ret (.idx (.var 8) (.var 3))]⟩
abbrev st179 : Stmt := top 46
def N179 : List Str := ["_law_deck_here", "_law_tree", "_law_number", "_law_way", "_law_at", "_law_steps", "_law_why", "_law_words", "_law_some", "_law_leaf", "_law_step"]
/-- _law_same_kind -/
def fd180 : Fd := ⟨2, 6, [.iff (.orr (.nt (.isin (.var 0) .tup)) (.cmp .ne (.bi .len (.cons (.var 0) (.nil))) (.bi .len (.cons (.var 1) (.nil))))) [.ret (.con (.bl false))] [], .forr (.tup [.nm 2, .nm 3]) (.bi .zip (.cons (.var 0) (.cons (.var 1) (.nil)))) [.iff (.orr (.nt (.isin (.var 2) .tup)) (.orr (.cmp .ne (.bi .len (.cons (.var 2) (.nil))) (.con (.int 2))) (.nt (.isin (.idx (.var 2) (.con (.int 0))) .tup)))) [.ret (.con (.bl false))] [], .set 4 (.lc (.var 5) [5] (.nm 5) (.idx (.var 2) (.con (.int 0))) (.orr (.nt (.isin (.var 5) .int)) (.isin (.var 5) .bool))), .iff (.orr (.cmp .ne (.var 4) (.lst (.nil))) (.cmp .ne (.var 2) (.var 3))) [.ret (.con (.bl false))] []], .ret (.con (.bl true))]⟩
abbrev st180 : Stmt := top 47
def N180 : List Str := ["_law_thing", "_law_tree", "_law_leaf", "_law_due", "_law_strange", "_law_step"]
/-- _law_great -/
def fd181 : Fd := ⟨1, 5, [.own 1 (.lst (.nil)), .forr (.tup [.nm 2, .nm 3]) (.bi .enum (.cons (.lst (.cons (.con (.int 2)) (.cons (.con (.int 2)) (.cons (.con (.int 2)) (.cons (.con (.int 2)) (.cons (.con (.int 5)) (.cons (.con (.int 5)) (.cons (.con (.int 5)) (.nil))))))))) (.nil))) [.app 1 (.tup (.cons (.bin .mul (.tup (.cons (.tup (.cons (.con (.int 1)) (.cons (.bin .add (.var 2) (.con (.int 1))) (.nil)))) (.nil))) (.var 3)) (.cons (.con (.bl false)) (.cons (.var 2) (.cons (.con (.int 0)) (.cons (.con (.bl false)) (.nil)))))))], .app 1 (.tup (.cons (.tup (.nil)) (.cons (.con (.bl true)) (.cons (.con (.int 7)) (.cons (.con (.int 0)) (.cons (.con (.bl false)) (.nil))))))), .frz 1, .set 4 (.call 177 (.cons (.var 1) (.cons (.con (.bl false)) (.cons (.con (.int 3000)) (.nil))))), .ret (.andd (.cmp .eq (.bi .len (.cons (.var 4) (.nil))) (.con (.int 2000))) (.call 176 (.cons (.callk 175 2 (.cons (.mkk 3 1 (.cons (.bi .tuple (.cons (.var 1) (.nil))) (.nil)) [some (.tup []), some (.non), some (.non)] (.nil)) (.cons (.sl (.var 4) (.noE) (.bin .sub (.con (.int 2000)) (.bi .int (.cons (.var 0) (.nil))))) (.nil))) [some (.bl false)] (.nil)) (.cons (.nt (.var 0)) (.nil)))))]⟩
abbrev st181 : Stmt := top 48
def N181 : List Str := ["_law_less", "_law_rows", "_law_at", "_law_many", "_law_tree"]
/-- law -/
def fd182 : Fd := ⟨1, 11, [.set 1 (.call 23 (.cons (.var 0) (.nil))), .forr (.nm 2) (.bi .range1 (.cons (.con (.int 2)) (.nil))) [.set 3 (.call 178 (.cons (.var 1) (.cons (.con (.int 400)) (.nil)))), .iff (.cmp .eq (.bin .mod (.call 24 (.cons (.var 1) (.nil))) (.con (.int 4))) (.con (.int 0))) [.set 4 (.call 165 (.cons (.var 1) (.cons (.var 3) (.nil)))), .iff (.cmp .notN (.call 177 (.cons (.idx (.var 4) (.con (.int 0))) (.cons (.con (.bl false)) (.cons (.con (.int 400)) (.nil))))) (.con (.non))) [.set 3 (.var 4)] []] [], .set 5 (.call 76 (.cons (.var 3) (.nil))), .set 6 (.lc (.call 177 (.cons (.idx (.var 3) (.con (.int 0))) (.cons (.var 7) (.cons (.con (.int 400)) (.nil))))) [7] (.nm 7) (.lst (.cons (.con (.bl false)) (.cons (.con (.bl true)) (.nil)))) (.con (.bl true))), .forr (.nm 8) (.bi .range1 (.cons (.con (.int 6)) (.nil))) [.set 9 (.idx (.var 6) (.bin .mod (.var 8) (.con (.int 2)))), .iff (.cmp .gt (.var 8) (.con (.int 1))) [.set 9 (.call 179 (.cons (.var 1) (.cons (.var 9) (.nil))))] [], .iff (.nt (.call 176 (.cons (.callk 175 2 (.cons (.var 5) (.cons (.var 9) (.nil))) [some (.bl false)] (.nil)) (.cons (.call 180 (.cons (.var 9) (.cons (.idx (.var 6) (.con (.int 0))) (.nil)))) (.nil))))) [.ret (.con (.bl false))] [], .forr (.nm 7) (.lst (.cons (.con (.bl false)) (.cons (.con (.bl true)) (.nil)))) [.set 10 (.call 180 (.cons (.var 9) (.cons (.idx (.var 6) (.bi .int (.cons (.var 7) (.nil)))) (.nil)))), .iff (.nt (.call 176 (.cons (.callk 175 2 (.cons (.var 5) (.cons (.var 9) (.nil))) [none] (.cons (.var 7) (.nil))) (.cons (.var 10) (.nil))))) [.ret (.con (.bl false))] []]]], .ret (.call 181 (.cons (.cmp .eq (.bin .mod (.call 24 (.cons (.var 1) (.nil))) (.con (.int 2))) (.con (.int 0))) (.nil)))]⟩
abbrev st182 : Stmt := top 49
def N182 : List Str := ["_law_script", "_law_deck_here", "_law_turn", "_law_data", "_law_strange", "_law_task", "_law_trees_here", "_law_barring", "_law_more", "_law_thing", "_law_due"]
def fnL : List (Nat × Fd) := [(1, fd1), (49, fd49), (161, fd161), (171, fd171), (172, fd172), (173, fd173), (174, fd174), (175, fd175), (4, fd4), (51, fd51), (52, fd52), (53, fd53), (54, fd54), (55, fd55), (56, fd56), (57, fd57), (58, fd58), (59, fd59), (61, fd61), (163, fd163), (63, fd63), (23, fd23), (24, fd24), (38, fd38), (39, fd39), (40, fd40), (41, fd41), (76, fd76), (176, fd176), (165, fd165), (177, fd177), (178, fd178), (179, fd179), (180, fd180), (181, fd181), (182, fd182)]
def mtL : List ((Nat × Nat) × Nat) := [((3, 8), 61), ((3, 11), 4), ((3, 3), 163), ((3, 6), 63), ((3, 18), 59)]
def iniL : List (Nat × Nat) := [(3, 58)]
def cfL : List (Nat × Nat) := [(3, 17), (3, 15), (3, 14), (3, 16)]
def nmL : List (Nat × Str) := [(3, "is_done"), (6, "cut"), (8, "nexts"), (11, "start"), (14, "table"), (15, "maps"), (16, "targets"), (17, "heads"), (18, "told_row")]
def kwL : List (Nat × Nat × List Str × List (Option MV)) := [(3, 1, ["turns", "ends", "heads"], [none, none, none]), (3, 1, [], [some (.tup []), some (.non), some (.non)])]
def koL : List Nat := [58, 175]
def kfL : List (Nat × Nat × List Str × List (Option MV)) := [(175, 2, [], [some (.bl false)]), (175, 2, ["cuts"], [none])]
def T : Tab := tabL fnL mtL iniL cfL kwL koL kfL
def SE1 : SE := ⟨[("is_whole", 1), ("is_from", 49), ("way_of", 161), ("end_of", 171), ("leaf_behind", 172), ("steps_behind", 173), ("is_leaf", 174), ("are_pairs", 51), ("is_told_row", 52), ("are_numbers", 53), ("look_rows", 54), ("look_turns", 55), ("look_ends", 56), ("as_standings", 57), ("_law_deck", 23), ("_law_next", 24), ("_law_classes", 38), ("_law_rests", 39), ("_law_ends", 40), ("_law_small", 41), ("_law_told", 76), ("_law_says", 176), ("_law_nudged", 165), ("_law_leaves", 177), ("_law_few", 178), ("_law_other_tree", 179), ("_law_same_kind", 180), ("_law_great", 181), ("law", 182)], [("Told", 3)], ["abs", "all", "bool", "enumerate", "int", "isinstance", "len", "list", "max", "range", "str", "tuple", "zip"], [], [("MOST_LEAVES", .int 2000), ("MOST_TOLD", .int 24), ("MOST_TURNS", .int 3), ("MOST_HEADS", .int 200), ("MOST_NAME", .int 99), ("MOST_BOUND", .int 100000), ("MOST_NEXTS", .int 8), ("MOST_COST", .int 1000)], nmOf nmL, kwL, [3], [], [("tree_holds", 175)], kfL⟩
def nN : Nat → List Str := fun n => match n with
  | 1 => N1
  | 49 => N49
  | 161 => N161
  | 171 => N171
  | 172 => N172
  | 173 => N173
  | 174 => N174
  | 175 => N175
  | 4 => N4
  | 51 => N51
  | 52 => N52
  | 53 => N53
  | 54 => N54
  | 55 => N55
  | 56 => N56
  | 57 => N57
  | 58 => N58
  | 59 => N59
  | 61 => N61
  | 163 => N163
  | 63 => N63
  | 23 => N23
  | 24 => N24
  | 38 => N38
  | 39 => N39
  | 40 => N40
  | 41 => N41
  | 76 => N76
  | 176 => N176
  | 165 => N165
  | 177 => N177
  | 178 => N178
  | 179 => N179
  | 180 => N180
  | 181 => N181
  | 182 => N182
  | _ => []
def stN : Nat → Stmt := fun n => match n with
  | 1 => st1
  | 49 => st49
  | 161 => st161
  | 171 => st171
  | 172 => st172
  | 173 => st173
  | 174 => st174
  | 175 => st175
  | 4 => st4
  | 51 => st51
  | 52 => st52
  | 53 => st53
  | 54 => st54
  | 55 => st55
  | 56 => st56
  | 57 => st57
  | 58 => st58
  | 59 => st59
  | 61 => st61
  | 163 => st163
  | 63 => st63
  | 23 => st23
  | 24 => st24
  | 38 => st38
  | 39 => st39
  | 40 => st40
  | 41 => st41
  | 76 => st76
  | 176 => st176
  | 165 => st165
  | 177 => st177
  | 178 => st178
  | 179 => st179
  | 180 => st180
  | 181 => st181
  | 182 => st182
  | _ => .Pass ⟨0, 0, 0, 0⟩
theorem ck1 : chkFd SE1 fd1 N1 st1 = true := by decide +kernel
theorem ck49 : chkFd SE1 fd49 N49 st49 = true := by decide +kernel
theorem ck161 : chkFd SE1 fd161 N161 st161 = true := by decide +kernel
theorem ck171 : chkFd SE1 fd171 N171 st171 = true := by decide +kernel
theorem ck172 : chkFd SE1 fd172 N172 st172 = true := by decide +kernel
theorem ck173 : chkFd SE1 fd173 N173 st173 = true := by decide +kernel
theorem ck174 : chkFd SE1 fd174 N174 st174 = true := by decide +kernel
theorem ck175 : chkFd SE1 fd175 N175 st175 = true := by decide +kernel
theorem ck4 : chkFd SE1 fd4 N4 st4 = true := by decide +kernel
theorem ck51 : chkFd SE1 fd51 N51 st51 = true := by decide +kernel
theorem ck52 : chkFd SE1 fd52 N52 st52 = true := by decide +kernel
theorem ck53 : chkFd SE1 fd53 N53 st53 = true := by decide +kernel
theorem ck54 : chkFd SE1 fd54 N54 st54 = true := by decide +kernel
theorem ck55 : chkFd SE1 fd55 N55 st55 = true := by decide +kernel
theorem ck56 : chkFd SE1 fd56 N56 st56 = true := by decide +kernel
theorem ck57 : chkFd SE1 fd57 N57 st57 = true := by decide +kernel
theorem ck58 : chkFd SE1 fd58 N58 st58 = true := by decide +kernel
theorem ck59 : chkFd SE1 fd59 N59 st59 = true := by decide +kernel
theorem ck61 : chkFd SE1 fd61 N61 st61 = true := by decide +kernel
theorem ck163 : chkFd SE1 fd163 N163 st163 = true := by decide +kernel
theorem ck63 : chkFd SE1 fd63 N63 st63 = true := by decide +kernel
theorem ck23 : chkFd SE1 fd23 N23 st23 = true := by decide +kernel
theorem ck24 : chkFd SE1 fd24 N24 st24 = true := by decide +kernel
theorem ck38 : chkFd SE1 fd38 N38 st38 = true := by decide +kernel
theorem ck39 : chkFd SE1 fd39 N39 st39 = true := by decide +kernel
theorem ck40 : chkFd SE1 fd40 N40 st40 = true := by decide +kernel
theorem ck41 : chkFd SE1 fd41 N41 st41 = true := by decide +kernel
theorem ck76 : chkFd SE1 fd76 N76 st76 = true := by decide +kernel
theorem ck176 : chkFd SE1 fd176 N176 st176 = true := by decide +kernel
theorem ck165 : chkFd SE1 fd165 N165 st165 = true := by decide +kernel
theorem ck177 : chkFd SE1 fd177 N177 st177 = true := by decide +kernel
theorem ck178 : chkFd SE1 fd178 N178 st178 = true := by decide +kernel
theorem ck179 : chkFd SE1 fd179 N179 st179 = true := by decide +kernel
theorem ck180 : chkFd SE1 fd180 N180 st180 = true := by decide +kernel
theorem ck181 : chkFd SE1 fd181 N181 st181 = true := by decide +kernel
theorem ck182 : chkFd SE1 fd182 N182 st182 = true := by decide +kernel
theorem law_true : ∀ ns : List Int, ns.length ≤ 63 → ∃ M, evC T 14 182 [.lst .ro (ns.map MV.int)] ⟨0, fun _ => none⟩ = .ok (.bl true) M := fun ns hn =>
  Q.TK.law24_ok { h1 := rfl, h49 := rfl, h51 := rfl, h52 := rfl, h53 := rfl, h54 := rfl, h55 := rfl, h56 := rfl, h58 := rfl, c14 := rfl, c15 := rfl, c16 := rfl, c17 := rfl, h59 := rfl, m18 := rfl, h4 := rfl, h57 := rfl, h61 := rfl, h163 := rfl, m3 := rfl, m8 := rfl, m11 := rfl, h161 := rfl, h63 := rfl, m6 := rfl, h171 := rfl, h172 := rfl, h173 := rfl, h174 := rfl, h175 := rfl, w := by decide, h23 := rfl, h24 := rfl, h38 := rfl, h39 := rfl, h40 := rfl, h41 := rfl, h76 := rfl, h165 := rfl, h176 := rfl, h177 := rfl, h178 := rfl, h179 := rfl, h180 := rfl, h181 := rfl, i3 := rfl, ww := by decide } rfl hn
set_option maxHeartbeats 0 in
theorem all_mk {l : PySem.W.OpenLaw} {w : World} {K : PySem.W.Frag} {h : Heap} {mg : Str → Option Value} {fa f1 f49 f161 f171 f172 f173 f174 f175 f4 f51 f52 f53 f54 f55 f56 f57 f58 f59 f61 f163 f63 f23 f24 f38 f39 f40 f41 f76 f176 f165 f177 f178 f179 f180 f181 f182 C3 : Addr} (X : K.In h) (G : h.Ns mainGlobals mg) (hfa : mg "law" = some (.ref fa))
    {od1 an1 od49 an49 od161 an161 od171 an171 od172 an172 od173 an173 od174 an174 od175 an175 od4 an4 od51 an51 od52 an52 od53 an53 od54 an54 od55 an55 od56 an56 od57 an57 od58 an58 od59 an59 od61 an61 od163 an163 od63 an63 od23 an23 od24 an24 od38 an38 od39 an39 od40 an40 od41 an41 od76 an76 od176 an176 od165 an165 od177 an177 od178 an178 od179 an179 od180 an180 od181 an181 od182 an182 : Option Addr} {sl1 sl49 sl161 sl171 sl172 sl173 sl174 sl175 sl4 sl51 sl52 sl53 sl54 sl55 sl56 sl57 sl58 sl59 sl61 sl163 sl63 sl23 sl24 sl38 sl39 sl40 sl41 sl76 sl176 sl165 sl177 sl178 sl179 sl180 sl181 sl182 : Array (Option Value)} {oc1 kV1 dc1 pm1 cd1 ct1 oc49 kV49 dc49 pm49 cd49 ct49 oc161 kV161 dc161 pm161 cd161 ct161 oc171 kV171 dc171 pm171 cd171 ct171 oc172 kV172 dc172 pm172 cd172 ct172 oc173 kV173 dc173 pm173 cd173 ct173 oc174 kV174 dc174 pm174 cd174 ct174 oc175 dc175 pm175 cd175 ct175 oc4 kV4 dc4 pm4 cd4 ct4 oc51 kV51 dc51 pm51 cd51 ct51 oc52 kV52 dc52 pm52 cd52 ct52 oc53 kV53 dc53 pm53 cd53 ct53 oc54 kV54 dc54 pm54 cd54 ct54 oc55 kV55 dc55 pm55 cd55 ct55 oc56 kV56 dc56 pm56 cd56 ct56 oc57 kV57 dc57 pm57 cd57 ct57 oc58 dc58 pm58 cd58 ct58 oc59 kV59 dc59 pm59 cd59 ct59 oc61 kV61 dc61 pm61 cd61 ct61 oc163 kV163 dc163 pm163 cd163 ct163 oc63 kV63 dc63 pm63 cd63 ct63 oc23 kV23 dc23 pm23 cd23 ct23 oc24 kV24 dc24 pm24 cd24 ct24 oc38 kV38 dc38 pm38 cd38 ct38 oc39 kV39 dc39 pm39 cd39 ct39 oc40 kV40 dc40 pm40 cd40 ct40 oc41 kV41 dc41 pm41 cd41 ct41 oc76 kV76 dc76 pm76 cd76 ct76 oc176 kV176 dc176 pm176 cd176 ct176 oc165 kV165 dc165 pm165 cd165 ct165 oc177 kV177 dc177 pm177 cd177 ct177 oc178 kV178 dc178 pm178 cd178 ct178 oc179 kV179 dc179 pm179 cd179 ct179 oc180 kV180 dc180 pm180 cd180 ct180 oc181 kV181 dc181 pm181 cd181 ct181 oc182 kV182 dc182 pm182 cd182 ct182 : Value} {g_MOST_LEAVES g_MOST_TOLD g_MOST_TURNS g_MOST_HEADS g_MOST_NAME g_MOST_BOUND g_MOST_NEXTS g_MOST_COST : Tok} {kD58 kD175 : Addr} {e0 : Addr} {oe0 : Option Addr} {ne0 : Nat} {se0 : Array (Option Value)}
    (l1 : K.lookup f1 = some ⟨oc1, od1, .func (PySem.W.fnOf "is_whole" "is_whole" (defArgs st1) (defBody st1) (defScope st1) .none kV1 dc1 pm1 an1 cd1 ct1), sl1⟩)
    (c1 : PySem.W.codeIn K cd1 "is_whole" = true)
    (k1 : PySem.W.keepIn K (.ref f1) = true)
    (l49 : K.lookup f49 = some ⟨oc49, od49, .func (PySem.W.fnOf "is_from" "is_from" (defArgs st49) (defBody st49) (defScope st49) .none kV49 dc49 pm49 an49 cd49 ct49), sl49⟩)
    (c49 : PySem.W.codeIn K cd49 "is_from" = true)
    (k49 : PySem.W.keepIn K (.ref f49) = true)
    (l161 : K.lookup f161 = some ⟨oc161, od161, .func (PySem.W.fnOf "way_of" "way_of" (defArgs st161) (defBody st161) (defScope st161) .none kV161 dc161 pm161 an161 cd161 ct161), sl161⟩)
    (c161 : PySem.W.codeIn K cd161 "way_of" = true)
    (k161 : PySem.W.keepIn K (.ref f161) = true)
    (l171 : K.lookup f171 = some ⟨oc171, od171, .func (PySem.W.fnOf "end_of" "end_of" (defArgs st171) (defBody st171) (defScope st171) .none kV171 dc171 pm171 an171 cd171 ct171), sl171⟩)
    (c171 : PySem.W.codeIn K cd171 "end_of" = true)
    (k171 : PySem.W.keepIn K (.ref f171) = true)
    (l172 : K.lookup f172 = some ⟨oc172, od172, .func (PySem.W.fnOf "leaf_behind" "leaf_behind" (defArgs st172) (defBody st172) (defScope st172) .none kV172 dc172 pm172 an172 cd172 ct172), sl172⟩)
    (c172 : PySem.W.codeIn K cd172 "leaf_behind" = true)
    (k172 : PySem.W.keepIn K (.ref f172) = true)
    (l173 : K.lookup f173 = some ⟨oc173, od173, .func (PySem.W.fnOf "steps_behind" "steps_behind" (defArgs st173) (defBody st173) (defScope st173) .none kV173 dc173 pm173 an173 cd173 ct173), sl173⟩)
    (c173 : PySem.W.codeIn K cd173 "steps_behind" = true)
    (k173 : PySem.W.keepIn K (.ref f173) = true)
    (l174 : K.lookup f174 = some ⟨oc174, od174, .func (PySem.W.fnOf "is_leaf" "is_leaf" (defArgs st174) (defBody st174) (defScope st174) .none kV174 dc174 pm174 an174 cd174 ct174), sl174⟩)
    (c174 : PySem.W.codeIn K cd174 "is_leaf" = true)
    (k174 : PySem.W.keepIn K (.ref f174) = true)
    (l175 : K.lookup f175 = some ⟨oc175, od175, .func (PySem.W.fnOf "tree_holds" "tree_holds" (defArgs st175) (defBody st175) (defScope st175) .none (.ref kD175) dc175 pm175 an175 cd175 ct175), sl175⟩)
    (c175 : PySem.W.codeIn K cd175 "tree_holds" = true)
    (k175 : PySem.W.keepIn K (.ref f175) = true)
    (l4 : K.lookup f4 = some ⟨oc4, od4, .func (PySem.W.fnOf "start" "Task.start" (defArgs st4) (defBody st4) (defScope st4) .none kV4 dc4 pm4 an4 cd4 ct4), sl4⟩)
    (c4 : PySem.W.codeIn K cd4 "Task.start" = true)
    (k4 : PySem.W.keepIn K (.ref f4) = true)
    (l51 : K.lookup f51 = some ⟨oc51, od51, .func (PySem.W.fnOf "are_pairs" "are_pairs" (defArgs st51) (defBody st51) (defScope st51) .none kV51 dc51 pm51 an51 cd51 ct51), sl51⟩)
    (c51 : PySem.W.codeIn K cd51 "are_pairs" = true)
    (k51 : PySem.W.keepIn K (.ref f51) = true)
    (l52 : K.lookup f52 = some ⟨oc52, od52, .func (PySem.W.fnOf "is_told_row" "is_told_row" (defArgs st52) (defBody st52) (defScope st52) .none kV52 dc52 pm52 an52 cd52 ct52), sl52⟩)
    (c52 : PySem.W.codeIn K cd52 "is_told_row" = true)
    (k52 : PySem.W.keepIn K (.ref f52) = true)
    (l53 : K.lookup f53 = some ⟨oc53, od53, .func (PySem.W.fnOf "are_numbers" "are_numbers" (defArgs st53) (defBody st53) (defScope st53) .none kV53 dc53 pm53 an53 cd53 ct53), sl53⟩)
    (c53 : PySem.W.codeIn K cd53 "are_numbers" = true)
    (k53 : PySem.W.keepIn K (.ref f53) = true)
    (l54 : K.lookup f54 = some ⟨oc54, od54, .func (PySem.W.fnOf "look_rows" "look_rows" (defArgs st54) (defBody st54) (defScope st54) .none kV54 dc54 pm54 an54 cd54 ct54), sl54⟩)
    (c54 : PySem.W.codeIn K cd54 "look_rows" = true)
    (k54 : PySem.W.keepIn K (.ref f54) = true)
    (l55 : K.lookup f55 = some ⟨oc55, od55, .func (PySem.W.fnOf "look_turns" "look_turns" (defArgs st55) (defBody st55) (defScope st55) .none kV55 dc55 pm55 an55 cd55 ct55), sl55⟩)
    (c55 : PySem.W.codeIn K cd55 "look_turns" = true)
    (k55 : PySem.W.keepIn K (.ref f55) = true)
    (l56 : K.lookup f56 = some ⟨oc56, od56, .func (PySem.W.fnOf "look_ends" "look_ends" (defArgs st56) (defBody st56) (defScope st56) .none kV56 dc56 pm56 an56 cd56 ct56), sl56⟩)
    (c56 : PySem.W.codeIn K cd56 "look_ends" = true)
    (k56 : PySem.W.keepIn K (.ref f56) = true)
    (l57 : K.lookup f57 = some ⟨oc57, od57, .func (PySem.W.fnOf "as_standings" "as_standings" (defArgs st57) (defBody st57) (defScope st57) .none kV57 dc57 pm57 an57 cd57 ct57), sl57⟩)
    (c57 : PySem.W.codeIn K cd57 "as_standings" = true)
    (k57 : PySem.W.keepIn K (.ref f57) = true)
    (l58 : K.lookup f58 = some ⟨oc58, od58, .func (PySem.W.fnOf "__init__" "Told.__init__" (defArgs st58) (defBody st58) (defScope st58) .none (.ref kD58) dc58 pm58 an58 cd58 ct58), sl58⟩)
    (c58 : PySem.W.codeIn K cd58 "Told.__init__" = true)
    (k58 : PySem.W.keepIn K (.ref f58) = true)
    (l59 : K.lookup f59 = some ⟨oc59, od59, .func (PySem.W.fnOf "told_row" "Told.told_row" (defArgs st59) (defBody st59) (defScope st59) .none kV59 dc59 pm59 an59 cd59 ct59), sl59⟩)
    (c59 : PySem.W.codeIn K cd59 "Told.told_row" = true)
    (k59 : PySem.W.keepIn K (.ref f59) = true)
    (l61 : K.lookup f61 = some ⟨oc61, od61, .func (PySem.W.fnOf "nexts" "Told.nexts" (defArgs st61) (defBody st61) (defScope st61) .none kV61 dc61 pm61 an61 cd61 ct61), sl61⟩)
    (c61 : PySem.W.codeIn K cd61 "Told.nexts" = true)
    (k61 : PySem.W.keepIn K (.ref f61) = true)
    (l163 : K.lookup f163 = some ⟨oc163, od163, .func (PySem.W.fnOf "is_done" "Told.is_done" (defArgs st163) (defBody st163) (defScope st163) .none kV163 dc163 pm163 an163 cd163 ct163), sl163⟩)
    (c163 : PySem.W.codeIn K cd163 "Told.is_done" = true)
    (k163 : PySem.W.keepIn K (.ref f163) = true)
    (l63 : K.lookup f63 = some ⟨oc63, od63, .func (PySem.W.fnOf "cut" "Told.cut" (defArgs st63) (defBody st63) (defScope st63) .none kV63 dc63 pm63 an63 cd63 ct63), sl63⟩)
    (c63 : PySem.W.codeIn K cd63 "Told.cut" = true)
    (k63 : PySem.W.keepIn K (.ref f63) = true)
    (l23 : K.lookup f23 = some ⟨oc23, od23, .func (PySem.W.fnOf "_law_deck" "_law_deck" (defArgs st23) (defBody st23) (defScope st23) .none kV23 dc23 pm23 an23 cd23 ct23), sl23⟩)
    (c23 : PySem.W.codeIn K cd23 "_law_deck" = true)
    (k23 : PySem.W.keepIn K (.ref f23) = true)
    (l24 : K.lookup f24 = some ⟨oc24, od24, .func (PySem.W.fnOf "_law_next" "_law_next" (defArgs st24) (defBody st24) (defScope st24) .none kV24 dc24 pm24 an24 cd24 ct24), sl24⟩)
    (c24 : PySem.W.codeIn K cd24 "_law_next" = true)
    (k24 : PySem.W.keepIn K (.ref f24) = true)
    (l38 : K.lookup f38 = some ⟨oc38, od38, .func (PySem.W.fnOf "_law_classes" "_law_classes" (defArgs st38) (defBody st38) (defScope st38) .none kV38 dc38 pm38 an38 cd38 ct38), sl38⟩)
    (c38 : PySem.W.codeIn K cd38 "_law_classes" = true)
    (k38 : PySem.W.keepIn K (.ref f38) = true)
    (l39 : K.lookup f39 = some ⟨oc39, od39, .func (PySem.W.fnOf "_law_rests" "_law_rests" (defArgs st39) (defBody st39) (defScope st39) .none kV39 dc39 pm39 an39 cd39 ct39), sl39⟩)
    (c39 : PySem.W.codeIn K cd39 "_law_rests" = true)
    (k39 : PySem.W.keepIn K (.ref f39) = true)
    (l40 : K.lookup f40 = some ⟨oc40, od40, .func (PySem.W.fnOf "_law_ends" "_law_ends" (defArgs st40) (defBody st40) (defScope st40) .none kV40 dc40 pm40 an40 cd40 ct40), sl40⟩)
    (c40 : PySem.W.codeIn K cd40 "_law_ends" = true)
    (k40 : PySem.W.keepIn K (.ref f40) = true)
    (l41 : K.lookup f41 = some ⟨oc41, od41, .func (PySem.W.fnOf "_law_small" "_law_small" (defArgs st41) (defBody st41) (defScope st41) .none kV41 dc41 pm41 an41 cd41 ct41), sl41⟩)
    (c41 : PySem.W.codeIn K cd41 "_law_small" = true)
    (k41 : PySem.W.keepIn K (.ref f41) = true)
    (l76 : K.lookup f76 = some ⟨oc76, od76, .func (PySem.W.fnOf "_law_told" "_law_told" (defArgs st76) (defBody st76) (defScope st76) .none kV76 dc76 pm76 an76 cd76 ct76), sl76⟩)
    (c76 : PySem.W.codeIn K cd76 "_law_told" = true)
    (k76 : PySem.W.keepIn K (.ref f76) = true)
    (l176 : K.lookup f176 = some ⟨oc176, od176, .func (PySem.W.fnOf "_law_says" "_law_says" (defArgs st176) (defBody st176) (defScope st176) .none kV176 dc176 pm176 an176 cd176 ct176), sl176⟩)
    (c176 : PySem.W.codeIn K cd176 "_law_says" = true)
    (k176 : PySem.W.keepIn K (.ref f176) = true)
    (l165 : K.lookup f165 = some ⟨oc165, od165, .func (PySem.W.fnOf "_law_nudged" "_law_nudged" (defArgs st165) (defBody st165) (defScope st165) .none kV165 dc165 pm165 an165 cd165 ct165), sl165⟩)
    (c165 : PySem.W.codeIn K cd165 "_law_nudged" = true)
    (k165 : PySem.W.keepIn K (.ref f165) = true)
    (l177 : K.lookup f177 = some ⟨oc177, od177, .func (PySem.W.fnOf "_law_leaves" "_law_leaves" (defArgs st177) (defBody st177) (defScope st177) .none kV177 dc177 pm177 an177 cd177 ct177), sl177⟩)
    (c177 : PySem.W.codeIn K cd177 "_law_leaves" = true)
    (k177 : PySem.W.keepIn K (.ref f177) = true)
    (l178 : K.lookup f178 = some ⟨oc178, od178, .func (PySem.W.fnOf "_law_few" "_law_few" (defArgs st178) (defBody st178) (defScope st178) .none kV178 dc178 pm178 an178 cd178 ct178), sl178⟩)
    (c178 : PySem.W.codeIn K cd178 "_law_few" = true)
    (k178 : PySem.W.keepIn K (.ref f178) = true)
    (l179 : K.lookup f179 = some ⟨oc179, od179, .func (PySem.W.fnOf "_law_other_tree" "_law_other_tree" (defArgs st179) (defBody st179) (defScope st179) .none kV179 dc179 pm179 an179 cd179 ct179), sl179⟩)
    (c179 : PySem.W.codeIn K cd179 "_law_other_tree" = true)
    (k179 : PySem.W.keepIn K (.ref f179) = true)
    (l180 : K.lookup f180 = some ⟨oc180, od180, .func (PySem.W.fnOf "_law_same_kind" "_law_same_kind" (defArgs st180) (defBody st180) (defScope st180) .none kV180 dc180 pm180 an180 cd180 ct180), sl180⟩)
    (c180 : PySem.W.codeIn K cd180 "_law_same_kind" = true)
    (k180 : PySem.W.keepIn K (.ref f180) = true)
    (l181 : K.lookup f181 = some ⟨oc181, od181, .func (PySem.W.fnOf "_law_great" "_law_great" (defArgs st181) (defBody st181) (defScope st181) .none kV181 dc181 pm181 an181 cd181 ct181), sl181⟩)
    (c181 : PySem.W.codeIn K cd181 "_law_great" = true)
    (k181 : PySem.W.keepIn K (.ref f181) = true)
    (l182 : K.lookup f182 = some ⟨oc182, od182, .func (PySem.W.fnOf "law" "law" (defArgs st182) (defBody st182) (defScope st182) .none kV182 dc182 pm182 an182 cd182 ct182), sl182⟩)
    (c182 : PySem.W.codeIn K cd182 "law" = true)
    (k182 : PySem.W.keepIn K (.ref f182) = true)
    (a1 : PySem.W.nsIn K mainGlobals "is_whole" = some (some (.ref f1)))
    (a49 : PySem.W.nsIn K mainGlobals "is_from" = some (some (.ref f49)))
    (a161 : PySem.W.nsIn K mainGlobals "way_of" = some (some (.ref f161)))
    (a171 : PySem.W.nsIn K mainGlobals "end_of" = some (some (.ref f171)))
    (a172 : PySem.W.nsIn K mainGlobals "leaf_behind" = some (some (.ref f172)))
    (a173 : PySem.W.nsIn K mainGlobals "steps_behind" = some (some (.ref f173)))
    (a174 : PySem.W.nsIn K mainGlobals "is_leaf" = some (some (.ref f174)))
    (a51 : PySem.W.nsIn K mainGlobals "are_pairs" = some (some (.ref f51)))
    (a52 : PySem.W.nsIn K mainGlobals "is_told_row" = some (some (.ref f52)))
    (a53 : PySem.W.nsIn K mainGlobals "are_numbers" = some (some (.ref f53)))
    (a54 : PySem.W.nsIn K mainGlobals "look_rows" = some (some (.ref f54)))
    (a55 : PySem.W.nsIn K mainGlobals "look_turns" = some (some (.ref f55)))
    (a56 : PySem.W.nsIn K mainGlobals "look_ends" = some (some (.ref f56)))
    (a57 : PySem.W.nsIn K mainGlobals "as_standings" = some (some (.ref f57)))
    (a23 : PySem.W.nsIn K mainGlobals "_law_deck" = some (some (.ref f23)))
    (a24 : PySem.W.nsIn K mainGlobals "_law_next" = some (some (.ref f24)))
    (a38 : PySem.W.nsIn K mainGlobals "_law_classes" = some (some (.ref f38)))
    (a39 : PySem.W.nsIn K mainGlobals "_law_rests" = some (some (.ref f39)))
    (a40 : PySem.W.nsIn K mainGlobals "_law_ends" = some (some (.ref f40)))
    (a41 : PySem.W.nsIn K mainGlobals "_law_small" = some (some (.ref f41)))
    (a76 : PySem.W.nsIn K mainGlobals "_law_told" = some (some (.ref f76)))
    (a176 : PySem.W.nsIn K mainGlobals "_law_says" = some (some (.ref f176)))
    (a165 : PySem.W.nsIn K mainGlobals "_law_nudged" = some (some (.ref f165)))
    (a177 : PySem.W.nsIn K mainGlobals "_law_leaves" = some (some (.ref f177)))
    (a178 : PySem.W.nsIn K mainGlobals "_law_few" = some (some (.ref f178)))
    (a179 : PySem.W.nsIn K mainGlobals "_law_other_tree" = some (some (.ref f179)))
    (a180 : PySem.W.nsIn K mainGlobals "_law_same_kind" = some (some (.ref f180)))
    (a181 : PySem.W.nsIn K mainGlobals "_law_great" = some (some (.ref f181)))
    (a182 : PySem.W.nsIn K mainGlobals "law" = some (some (.ref f182)))
    (a175 : PySem.W.nsIn K mainGlobals "tree_holds" = some (some (.ref f175)))
    (aC3 : PySem.W.nsIn K mainGlobals "Told" = some (some (.ref C3)))
    (pg3 : PySem.W.plainGet K C3 Str.empty = true)
    (hd3 : PySem.W.hasDictIn K C3 = true)
    (po3 : PySem.W.plainOver K C3 = true)
    (sa3 : PySem.W.findIn K (.ref C3) "__setattr__" = some (some (.builtin "object.__setattr__")))
    (mk3 : PySem.W.makesIn K C3 = true)
    (kc3 : PySem.W.keepIn K (.ref C3) = true)
    (i3 : PySem.W.findIn K (.ref C3) "__init__" = some (some (.ref f58)))
    (m3_8 : PySem.W.findIn K (.ref C3) "nexts" = some (some (.ref f61)))
    (m3_11 : PySem.W.findIn K (.ref C3) "start" = some (some (.ref f4)))
    (m3_3 : PySem.W.findIn K (.ref C3) "is_done" = some (some (.ref f163)))
    (m3_6 : PySem.W.findIn K (.ref C3) "cut" = some (some (.ref f63)))
    (m3_18 : PySem.W.findIn K (.ref C3) "told_row" = some (some (.ref f59)))
    (fn58 : PySem.W.isFn K (.ref f58) = true)
    (fn61 : PySem.W.isFn K (.ref f61) = true)
    (fn4 : PySem.W.isFn K (.ref f4) = true)
    (fn163 : PySem.W.isFn K (.ref f163) = true)
    (fn63 : PySem.W.isFn K (.ref f63) = true)
    (fn59 : PySem.W.isFn K (.ref f59) = true)
    (n3_17 : PySem.W.findIn K (.ref C3) "heads" = some none)
    (n3_15 : PySem.W.findIn K (.ref C3) "maps" = some none)
    (n3_14 : PySem.W.findIn K (.ref C3) "table" = some none)
    (n3_16 : PySem.W.findIn K (.ref C3) "targets" = some none)
    (gc_MOST_LEAVES : PySem.W.nsIn K mainGlobals "MOST_LEAVES" = some (some (.int 2000 g_MOST_LEAVES)))
    (gc_MOST_TOLD : PySem.W.nsIn K mainGlobals "MOST_TOLD" = some (some (.int 24 g_MOST_TOLD)))
    (gc_MOST_TURNS : PySem.W.nsIn K mainGlobals "MOST_TURNS" = some (some (.int 3 g_MOST_TURNS)))
    (gc_MOST_HEADS : PySem.W.nsIn K mainGlobals "MOST_HEADS" = some (some (.int 200 g_MOST_HEADS)))
    (gc_MOST_NAME : PySem.W.nsIn K mainGlobals "MOST_NAME" = some (some (.int 99 g_MOST_NAME)))
    (gc_MOST_BOUND : PySem.W.nsIn K mainGlobals "MOST_BOUND" = some (some (.int 100000 g_MOST_BOUND)))
    (gc_MOST_NEXTS : PySem.W.nsIn K mainGlobals "MOST_NEXTS" = some (some (.int 8 g_MOST_NEXTS)))
    (gc_MOST_COST : PySem.W.nsIn K mainGlobals "MOST_COST" = some (some (.int 1000 g_MOST_COST)))
    (z_abs : PySem.W.nsIn K mainGlobals "abs" = some none)
    (z_all : PySem.W.nsIn K mainGlobals "all" = some none)
    (z_bool : PySem.W.nsIn K mainGlobals "bool" = some none)
    (z_enumerate : PySem.W.nsIn K mainGlobals "enumerate" = some none)
    (z_int : PySem.W.nsIn K mainGlobals "int" = some none)
    (z_isinstance : PySem.W.nsIn K mainGlobals "isinstance" = some none)
    (z_len : PySem.W.nsIn K mainGlobals "len" = some none)
    (z_list : PySem.W.nsIn K mainGlobals "list" = some none)
    (z_max : PySem.W.nsIn K mainGlobals "max" = some none)
    (z_range : PySem.W.nsIn K mainGlobals "range" = some none)
    (z_str : PySem.W.nsIn K mainGlobals "str" = some none)
    (z_tuple : PySem.W.nsIn K mainGlobals "tuple" = some none)
    (z_zip : PySem.W.nsIn K mainGlobals "zip" = some none)
    (kw58_turns : PySem.W.nsIn K kD58 "turns" = some (some (.ref e0)))
    (kw58_ends : PySem.W.nsIn K kD58 "ends" = some (some .none))
    (kw58_heads : PySem.W.nsIn K kD58 "heads" = some (some .none))
    (kw175_cuts : PySem.W.nsIn K kD175 "cuts" = some (some (.bool false)))
    (le0 : K.lookup e0 = some ⟨.type "tuple", oe0, .seq #[] ne0, se0⟩)
    (law : ∀ ns : List Int, ns.length ≤ 63 → ∃ M, evC T 14 182 [.lst .ro (ns.map MV.int)] ⟨0, fun _ => none⟩ = .ok (.bl true) M) :
    ∃ fd : FuncData, (∀ (s : Shared) (v : Value), BindsTo s fd ⟨[v], []⟩ [("_law_script", v)]) ∧ ∀ base : Heap, K.In base → base.Ns mainGlobals mg → FnG l.prog w K mg base 28 fa fd ["_law_script"] (spLaw K 63) := by
  have e := hfa.symm.trans (PySem.W.mg_of X G a182)
  cases e
  let Γ : Gam := ⟨K, nmOf nmL, fun C => match C with
    | 3 => C3
    | _ => 0, [(e0, [])], fm_cons (P := fun p : Addr × List V => ∀ is : List Int, is ≠ [] → p.2 ≠ is.map V.int) ki_e (fm_nil), nmOf_inj (by decide +kernel)⟩
  have repE : ∀ w, Rep Γ w (.tup []) (.ref e0) := fun w => .tup (.inr ⟨List.mem_cons_self .., _, #[], ne0, le0, rfl, rfl, Nat.zero_le _, .nil⟩) .nil
  let ad : Nat → Addr := fun n => match n with
    | 1 => f1
    | 49 => f49
    | 161 => f161
    | 171 => f171
    | 172 => f172
    | 173 => f173
    | 174 => f174
    | 175 => f175
    | 4 => f4
    | 51 => f51
    | 52 => f52
    | 53 => f53
    | 54 => f54
    | 55 => f55
    | 56 => f56
    | 57 => f57
    | 58 => f58
    | 59 => f59
    | 61 => f61
    | 163 => f163
    | 63 => f63
    | 23 => f23
    | 24 => f24
    | 38 => f38
    | 39 => f39
    | 40 => f40
    | 41 => f41
    | 76 => f76
    | 176 => f176
    | 165 => f165
    | 177 => f177
    | 178 => f178
    | 179 => f179
    | 180 => f180
    | 181 => f181
    | 182 => fa
    | _ => 0
  have cl3 : Cls K C3 := ⟨pg3, hd3, po3, sa3⟩
  have F1 : FnFact K f1 st1 (N1.take fd1.np) (koL.contains 1) := ⟨⟨_, _, _, _, _, _, _, _, _, _, _, l1, c1, fun _ us hl => match us, hl with | [_], _ => rfl⟩, k1⟩
  have F49 : FnFact K f49 st49 (N49.take fd49.np) (koL.contains 49) := ⟨⟨_, _, _, _, _, _, _, _, _, _, _, l49, c49, fun _ us hl => match us, hl with | [_, _, _], _ => rfl⟩, k49⟩
  have F161 : FnFact K f161 st161 (N161.take fd161.np) (koL.contains 161) := ⟨⟨_, _, _, _, _, _, _, _, _, _, _, l161, c161, fun _ us hl => match us, hl with | [_, _], _ => rfl⟩, k161⟩
  have F171 : FnFact K f171 st171 (N171.take fd171.np) (koL.contains 171) := ⟨⟨_, _, _, _, _, _, _, _, _, _, _, l171, c171, fun _ us hl => match us, hl with | [_, _, _], _ => rfl⟩, k171⟩
  have F172 : FnFact K f172 st172 (N172.take fd172.np) (koL.contains 172) := ⟨⟨_, _, _, _, _, _, _, _, _, _, _, l172, c172, fun _ us hl => match us, hl with | [_, _, _], _ => rfl⟩, k172⟩
  have F173 : FnFact K f173 st173 (N173.take fd173.np) (koL.contains 173) := ⟨⟨_, _, _, _, _, _, _, _, _, _, _, l173, c173, fun _ us hl => match us, hl with | [_, _], _ => rfl⟩, k173⟩
  have F174 : FnFact K f174 st174 (N174.take fd174.np) (koL.contains 174) := ⟨⟨_, _, _, _, _, _, _, _, _, _, _, l174, c174, fun _ us hl => match us, hl with | [_, _], _ => rfl⟩, k174⟩
  have F175 : FnFact K f175 st175 (N175.take fd175.np) (koL.contains 175) := ⟨⟨_, _, _, _, _, _, _, _, _, _, _, l175, c175, fun h => absurd h (by decide)⟩, k175⟩
  have F4 : FnFact K f4 st4 (N4.take fd4.np) (koL.contains 4) := ⟨⟨_, _, _, _, _, _, _, _, _, _, _, l4, c4, fun _ us hl => match us, hl with | [_], _ => rfl⟩, k4⟩
  have F51 : FnFact K f51 st51 (N51.take fd51.np) (koL.contains 51) := ⟨⟨_, _, _, _, _, _, _, _, _, _, _, l51, c51, fun _ us hl => match us, hl with | [_, _, _], _ => rfl⟩, k51⟩
  have F52 : FnFact K f52 st52 (N52.take fd52.np) (koL.contains 52) := ⟨⟨_, _, _, _, _, _, _, _, _, _, _, l52, c52, fun _ us hl => match us, hl with | [_, _], _ => rfl⟩, k52⟩
  have F53 : FnFact K f53 st53 (N53.take fd53.np) (koL.contains 53) := ⟨⟨_, _, _, _, _, _, _, _, _, _, _, l53, c53, fun _ us hl => match us, hl with | [_, _], _ => rfl⟩, k53⟩
  have F54 : FnFact K f54 st54 (N54.take fd54.np) (koL.contains 54) := ⟨⟨_, _, _, _, _, _, _, _, _, _, _, l54, c54, fun _ us hl => match us, hl with | [_], _ => rfl⟩, k54⟩
  have F55 : FnFact K f55 st55 (N55.take fd55.np) (koL.contains 55) := ⟨⟨_, _, _, _, _, _, _, _, _, _, _, l55, c55, fun _ us hl => match us, hl with | [_, _], _ => rfl⟩, k55⟩
  have F56 : FnFact K f56 st56 (N56.take fd56.np) (koL.contains 56) := ⟨⟨_, _, _, _, _, _, _, _, _, _, _, l56, c56, fun _ us hl => match us, hl with | [_, _, _], _ => rfl⟩, k56⟩
  have F57 : FnFact K f57 st57 (N57.take fd57.np) (koL.contains 57) := ⟨⟨_, _, _, _, _, _, _, _, _, _, _, l57, c57, fun _ us hl => match us, hl with | [_], _ => rfl⟩, k57⟩
  have F58 : FnFact K f58 st58 (N58.take fd58.np) (koL.contains 58) := ⟨⟨_, _, _, _, _, _, _, _, _, _, _, l58, c58, fun h => absurd h (by decide)⟩, k58⟩
  have F59 : FnFact K f59 st59 (N59.take fd59.np) (koL.contains 59) := ⟨⟨_, _, _, _, _, _, _, _, _, _, _, l59, c59, fun _ us hl => match us, hl with | [_, _], _ => rfl⟩, k59⟩
  have F61 : FnFact K f61 st61 (N61.take fd61.np) (koL.contains 61) := ⟨⟨_, _, _, _, _, _, _, _, _, _, _, l61, c61, fun _ us hl => match us, hl with | [_, _], _ => rfl⟩, k61⟩
  have F163 : FnFact K f163 st163 (N163.take fd163.np) (koL.contains 163) := ⟨⟨_, _, _, _, _, _, _, _, _, _, _, l163, c163, fun _ us hl => match us, hl with | [_, _], _ => rfl⟩, k163⟩
  have F63 : FnFact K f63 st63 (N63.take fd63.np) (koL.contains 63) := ⟨⟨_, _, _, _, _, _, _, _, _, _, _, l63, c63, fun _ us hl => match us, hl with | [_, _], _ => rfl⟩, k63⟩
  have F23 : FnFact K f23 st23 (N23.take fd23.np) (koL.contains 23) := ⟨⟨_, _, _, _, _, _, _, _, _, _, _, l23, c23, fun _ us hl => match us, hl with | [_], _ => rfl⟩, k23⟩
  have F24 : FnFact K f24 st24 (N24.take fd24.np) (koL.contains 24) := ⟨⟨_, _, _, _, _, _, _, _, _, _, _, l24, c24, fun _ us hl => match us, hl with | [_], _ => rfl⟩, k24⟩
  have F38 : FnFact K f38 st38 (N38.take fd38.np) (koL.contains 38) := ⟨⟨_, _, _, _, _, _, _, _, _, _, _, l38, c38, fun _ us hl => match us, hl with | [_, _], _ => rfl⟩, k38⟩
  have F39 : FnFact K f39 st39 (N39.take fd39.np) (koL.contains 39) := ⟨⟨_, _, _, _, _, _, _, _, _, _, _, l39, c39, fun _ us hl => match us, hl with | [_], _ => rfl⟩, k39⟩
  have F40 : FnFact K f40 st40 (N40.take fd40.np) (koL.contains 40) := ⟨⟨_, _, _, _, _, _, _, _, _, _, _, l40, c40, fun _ us hl => match us, hl with | [_], _ => rfl⟩, k40⟩
  have F41 : FnFact K f41 st41 (N41.take fd41.np) (koL.contains 41) := ⟨⟨_, _, _, _, _, _, _, _, _, _, _, l41, c41, fun _ us hl => match us, hl with | [_, _], _ => rfl⟩, k41⟩
  have F76 : FnFact K f76 st76 (N76.take fd76.np) (koL.contains 76) := ⟨⟨_, _, _, _, _, _, _, _, _, _, _, l76, c76, fun _ us hl => match us, hl with | [_], _ => rfl⟩, k76⟩
  have F176 : FnFact K f176 st176 (N176.take fd176.np) (koL.contains 176) := ⟨⟨_, _, _, _, _, _, _, _, _, _, _, l176, c176, fun _ us hl => match us, hl with | [_, _], _ => rfl⟩, k176⟩
  have F165 : FnFact K f165 st165 (N165.take fd165.np) (koL.contains 165) := ⟨⟨_, _, _, _, _, _, _, _, _, _, _, l165, c165, fun _ us hl => match us, hl with | [_, _], _ => rfl⟩, k165⟩
  have F177 : FnFact K f177 st177 (N177.take fd177.np) (koL.contains 177) := ⟨⟨_, _, _, _, _, _, _, _, _, _, _, l177, c177, fun _ us hl => match us, hl with | [_, _, _], _ => rfl⟩, k177⟩
  have F178 : FnFact K f178 st178 (N178.take fd178.np) (koL.contains 178) := ⟨⟨_, _, _, _, _, _, _, _, _, _, _, l178, c178, fun _ us hl => match us, hl with | [_, _], _ => rfl⟩, k178⟩
  have F179 : FnFact K f179 st179 (N179.take fd179.np) (koL.contains 179) := ⟨⟨_, _, _, _, _, _, _, _, _, _, _, l179, c179, fun _ us hl => match us, hl with | [_, _], _ => rfl⟩, k179⟩
  have F180 : FnFact K f180 st180 (N180.take fd180.np) (koL.contains 180) := ⟨⟨_, _, _, _, _, _, _, _, _, _, _, l180, c180, fun _ us hl => match us, hl with | [_, _], _ => rfl⟩, k180⟩
  have F181 : FnFact K f181 st181 (N181.take fd181.np) (koL.contains 181) := ⟨⟨_, _, _, _, _, _, _, _, _, _, _, l181, c181, fun _ us hl => match us, hl with | [_], _ => rfl⟩, k181⟩
  have F182 : FnFact K fa st182 (N182.take fd182.np) (koL.contains 182) := ⟨⟨_, _, _, _, _, _, _, _, _, _, _, l182, c182, fun _ us hl => match us, hl with | [_], _ => rfl⟩, k182⟩
  have tx : TX Γ T ad SE1 mg nN stN w := txL
    (fm_cons ⟨F1, ck1⟩ (fm_cons ⟨F49, ck49⟩ (fm_cons ⟨F161, ck161⟩ (fm_cons ⟨F171, ck171⟩ (fm_cons ⟨F172, ck172⟩ (fm_cons ⟨F173, ck173⟩ (fm_cons ⟨F174, ck174⟩ (fm_cons ⟨F175, ck175⟩ (fm_cons ⟨F4, ck4⟩ (fm_cons ⟨F51, ck51⟩ (fm_cons ⟨F52, ck52⟩ (fm_cons ⟨F53, ck53⟩ (fm_cons ⟨F54, ck54⟩ (fm_cons ⟨F55, ck55⟩ (fm_cons ⟨F56, ck56⟩ (fm_cons ⟨F57, ck57⟩ (fm_cons ⟨F58, ck58⟩ (fm_cons ⟨F59, ck59⟩ (fm_cons ⟨F61, ck61⟩ (fm_cons ⟨F163, ck163⟩ (fm_cons ⟨F63, ck63⟩ (fm_cons ⟨F23, ck23⟩ (fm_cons ⟨F24, ck24⟩ (fm_cons ⟨F38, ck38⟩ (fm_cons ⟨F39, ck39⟩ (fm_cons ⟨F40, ck40⟩ (fm_cons ⟨F41, ck41⟩ (fm_cons ⟨F76, ck76⟩ (fm_cons ⟨F176, ck176⟩ (fm_cons ⟨F165, ck165⟩ (fm_cons ⟨F177, ck177⟩ (fm_cons ⟨F178, ck178⟩ (fm_cons ⟨F179, ck179⟩ (fm_cons ⟨F180, ck180⟩ (fm_cons ⟨F181, ck181⟩ (fm_cons ⟨F182, ck182⟩ (fm_nil)))))))))))))))))))))))))))))))))))))
    (fm_cons ⟨cl3, ⟨m3_8, fn61, k61⟩, rfl, rfl⟩ (fm_cons ⟨cl3, ⟨m3_11, fn4, k4⟩, rfl, rfl⟩ (fm_cons ⟨cl3, ⟨m3_3, fn163, k163⟩, rfl, rfl⟩ (fm_cons ⟨cl3, ⟨m3_6, fn63, k63⟩, rfl, rfl⟩ (fm_cons ⟨cl3, ⟨m3_18, fn59, k59⟩, rfl, rfl⟩ (fm_nil))))))
    (fm_cons ⟨⟨mk3, i3, fn58, kc3⟩, rfl⟩ (fm_nil))
    (fm_cons ⟨cl3, n3_17⟩ (fm_cons ⟨cl3, n3_15⟩ (fm_cons ⟨cl3, n3_14⟩ (fm_cons ⟨cl3, n3_16⟩ (fm_nil)))))
    (fm_cons ⟨PySem.W.mg_of X G a1, rfl, rfl⟩ (fm_cons ⟨PySem.W.mg_of X G a49, rfl, rfl⟩ (fm_cons ⟨PySem.W.mg_of X G a161, rfl, rfl⟩ (fm_cons ⟨PySem.W.mg_of X G a171, rfl, rfl⟩ (fm_cons ⟨PySem.W.mg_of X G a172, rfl, rfl⟩ (fm_cons ⟨PySem.W.mg_of X G a173, rfl, rfl⟩ (fm_cons ⟨PySem.W.mg_of X G a174, rfl, rfl⟩ (fm_cons ⟨PySem.W.mg_of X G a51, rfl, rfl⟩ (fm_cons ⟨PySem.W.mg_of X G a52, rfl, rfl⟩ (fm_cons ⟨PySem.W.mg_of X G a53, rfl, rfl⟩ (fm_cons ⟨PySem.W.mg_of X G a54, rfl, rfl⟩ (fm_cons ⟨PySem.W.mg_of X G a55, rfl, rfl⟩ (fm_cons ⟨PySem.W.mg_of X G a56, rfl, rfl⟩ (fm_cons ⟨PySem.W.mg_of X G a57, rfl, rfl⟩ (fm_cons ⟨PySem.W.mg_of X G a23, rfl, rfl⟩ (fm_cons ⟨PySem.W.mg_of X G a24, rfl, rfl⟩ (fm_cons ⟨PySem.W.mg_of X G a38, rfl, rfl⟩ (fm_cons ⟨PySem.W.mg_of X G a39, rfl, rfl⟩ (fm_cons ⟨PySem.W.mg_of X G a40, rfl, rfl⟩ (fm_cons ⟨PySem.W.mg_of X G a41, rfl, rfl⟩ (fm_cons ⟨PySem.W.mg_of X G a76, rfl, rfl⟩ (fm_cons ⟨PySem.W.mg_of X G a176, rfl, rfl⟩ (fm_cons ⟨PySem.W.mg_of X G a165, rfl, rfl⟩ (fm_cons ⟨PySem.W.mg_of X G a177, rfl, rfl⟩ (fm_cons ⟨PySem.W.mg_of X G a178, rfl, rfl⟩ (fm_cons ⟨PySem.W.mg_of X G a179, rfl, rfl⟩ (fm_cons ⟨PySem.W.mg_of X G a180, rfl, rfl⟩ (fm_cons ⟨PySem.W.mg_of X G a181, rfl, rfl⟩ (fm_cons ⟨PySem.W.mg_of X G a182, rfl, rfl⟩ (fm_nil))))))))))))))))))))))))))))))
    (fm_cons (PySem.W.mg_of X G aC3) (fm_nil))
    (fm_cons (PySem.W.mg_none_of X G z_abs) (fm_cons (PySem.W.mg_none_of X G z_all) (fm_cons (PySem.W.mg_none_of X G z_bool) (fm_cons (PySem.W.mg_none_of X G z_enumerate) (fm_cons (PySem.W.mg_none_of X G z_int) (fm_cons (PySem.W.mg_none_of X G z_isinstance) (fm_cons (PySem.W.mg_none_of X G z_len) (fm_cons (PySem.W.mg_none_of X G z_list) (fm_cons (PySem.W.mg_none_of X G z_max) (fm_cons (PySem.W.mg_none_of X G z_range) (fm_cons (PySem.W.mg_none_of X G z_str) (fm_cons (PySem.W.mg_none_of X G z_tuple) (fm_cons (PySem.W.mg_none_of X G z_zip) (fm_nil))))))))))))))
    rfl
    (fm_cons ⟨V.int 2000, _, PySem.W.mg_of X G gc_MOST_LEAVES, ⟨_, rfl⟩, fun _ _ => .int _⟩ (fm_cons ⟨V.int 24, _, PySem.W.mg_of X G gc_MOST_TOLD, ⟨_, rfl⟩, fun _ _ => .int _⟩ (fm_cons ⟨V.int 3, _, PySem.W.mg_of X G gc_MOST_TURNS, ⟨_, rfl⟩, fun _ _ => .int _⟩ (fm_cons ⟨V.int 200, _, PySem.W.mg_of X G gc_MOST_HEADS, ⟨_, rfl⟩, fun _ _ => .int _⟩ (fm_cons ⟨V.int 99, _, PySem.W.mg_of X G gc_MOST_NAME, ⟨_, rfl⟩, fun _ _ => .int _⟩ (fm_cons ⟨V.int 100000, _, PySem.W.mg_of X G gc_MOST_BOUND, ⟨_, rfl⟩, fun _ _ => .int _⟩ (fm_cons ⟨V.int 8, _, PySem.W.mg_of X G gc_MOST_NEXTS, ⟨_, rfl⟩, fun _ _ => .int _⟩ (fm_cons ⟨V.int 1000, _, PySem.W.mg_of X G gc_MOST_COST, ⟨_, rfl⟩, fun _ _ => .int _⟩ (fm_nil)))))))))
    rfl
    rfl
    (fm_cons (.inl rfl) (fm_nil))
    (fm_cons (fun f fd e1 e2 fdat oc od osl lk => by
      cases e1; cases e2; cases l58.symm.trans lk
      have FD : FunD K _ _ (defArgs st58) (defBody st58) (defScope st58) [] [(("turns" : Str), (.ref e0 : V)), (("ends" : Str), (.non : V)), (("heads" : Str), (.non : V))] f58 _ := ⟨⟨_, _, _, _, _, _, _, _, _, _, rfl, l58, c58, .inl ⟨rfl, rfl⟩, .inr ⟨kD58, rfl, (fm_cons ⟨_, kw58_turns, rfl⟩ (fm_cons ⟨_, kw58_ends, rfl⟩ (fm_cons ⟨_, kw58_heads, rfl⟩ (fm_nil))))⟩⟩, k58⟩
      obtain ⟨mv, KB⟩ := FD.kbinds0 (ps := [("self" : Str), ("rows" : Str), ("turns" : Str), ("ends" : Str), ("heads" : Str)]) 2 [("turns" : Str), ("ends" : Str), ("heads" : Str)] [] (fun us mz ws => us ++ fillG [none, none, none] mz ws) (List.cons_ne_nil _ _) (fm_nil) (fun a b c => vals_fill a b c) (fun D doc pm an cdv ct us mv ws h1 h2 h3 => match us, h1 with | [_, _], _ => match mv, h2 with | [], _ => match ws, h3 with | [_, _, _], _ => rfl)
      exact ⟨mv, _, KB, fun w _ => .nil⟩) (fm_cons (fun f fd e1 e2 fdat oc od osl lk => by
      cases e1; cases e2; cases l58.symm.trans lk
      have FD : FunD K _ _ (defArgs st58) (defBody st58) (defScope st58) [] [(("turns" : Str), (.ref e0 : V)), (("ends" : Str), (.non : V)), (("heads" : Str), (.non : V))] f58 _ := ⟨⟨_, _, _, _, _, _, _, _, _, _, rfl, l58, c58, .inl ⟨rfl, rfl⟩, .inr ⟨kD58, rfl, (fm_cons ⟨_, kw58_turns, rfl⟩ (fm_cons ⟨_, kw58_ends, rfl⟩ (fm_cons ⟨_, kw58_heads, rfl⟩ (fm_nil))))⟩⟩, k58⟩
      obtain ⟨mv, KB⟩ := FD.kbinds0 (ps := [("self" : Str), ("rows" : Str), ("turns" : Str), ("ends" : Str), ("heads" : Str)]) 2 [] [(("turns" : Str), (.ref e0 : V)), (("ends" : Str), (.non : V)), (("heads" : Str), (.non : V))] (fun us mz ws => us ++ fillG [some (.tup []), some (.non), some (.non)] mz ws) (List.cons_ne_nil _ _) ((fm_cons (List.mem_cons_self ..) (fm_cons (List.mem_cons_of_mem _ (List.mem_cons_self ..)) (fm_cons (List.mem_cons_of_mem _ (List.mem_cons_of_mem _ (List.mem_cons_self ..))) (fm_nil))))) (fun a b c => vals_fill a b c) (fun D doc pm an cdv ct us mv ws h1 h2 h3 => match us, h1 with | [_, _], _ => match mv, h2 with | [_, _, _], _ => match ws, h3 with | [], _ => ⟨_, _, _, _, _, _, rfl, rfl, _, _, _, _, _, _, rfl, rfl, _, _, _, _, _, _, rfl, rfl, rfl⟩)
      exact ⟨mv, _, KB, fun w _ => .cons (repE w) (.cons (.non) (.cons (.non) (.nil)))⟩) (fm_nil)))
    (fm_cons ⟨PySem.W.mg_of X G a175, rfl⟩ (fm_nil))
    rfl
    (fm_cons (fun fd e2 fdat oc od osl lk => by
      cases e2; cases l175.symm.trans lk
      have FD : FunD K _ _ (defArgs st175) (defBody st175) (defScope st175) [] [(("cuts" : Str), (.bl false : V))] f175 _ := ⟨⟨_, _, _, _, _, _, _, _, _, _, rfl, l175, c175, .inl ⟨rfl, rfl⟩, .inr ⟨kD175, rfl, (fm_cons ⟨_, kw175_cuts, rfl⟩ (fm_nil))⟩⟩, k175⟩
      obtain ⟨mv, KB⟩ := FD.kbinds0 (ps := [("task" : Str), ("thing" : Str), ("cuts" : Str)]) 2 [] [(("cuts" : Str), (.bl false : V))] (fun us mz ws => us ++ fillG [some (.bl false)] mz ws) (List.cons_ne_nil _ _) ((fm_cons (List.mem_cons_self ..) (fm_nil))) (fun a b c => vals_fill a b c) (fun D doc pm an cdv ct us mv ws h1 h2 h3 => match us, h1 with | [_, _], _ => match mv, h2 with | [_], _ => match ws, h3 with | [], _ => ⟨_, _, _, _, _, _, rfl, rfl, rfl⟩)
      exact ⟨mv, _, KB, fun w _ => .cons ((.bl _)) (.nil)⟩) (fm_cons (fun fd e2 fdat oc od osl lk => by
      cases e2; cases l175.symm.trans lk
      have FD : FunD K _ _ (defArgs st175) (defBody st175) (defScope st175) [] [(("cuts" : Str), (.bl false : V))] f175 _ := ⟨⟨_, _, _, _, _, _, _, _, _, _, rfl, l175, c175, .inl ⟨rfl, rfl⟩, .inr ⟨kD175, rfl, (fm_cons ⟨_, kw175_cuts, rfl⟩ (fm_nil))⟩⟩, k175⟩
      obtain ⟨mv, KB⟩ := FD.kbinds0 (ps := [("task" : Str), ("thing" : Str), ("cuts" : Str)]) 2 [("cuts" : Str)] [] (fun us mz ws => us ++ fillG [none] mz ws) (List.cons_ne_nil _ _) (fm_nil) (fun a b c => vals_fill a b c) (fun D doc pm an cdv ct us mv ws h1 h2 h3 => match us, h1 with | [_, _], _ => match mv, h2 with | [], _ => match ws, h3 with | [_], _ => rfl)
      exact ⟨mv, _, KB, fun w _ => .nil⟩) (fm_nil)))
    (fm_nil)
  have hb : ∀ us : List Value, us.length = 1 → PySem.bindArgs (PySem.W.fnOf "law" "law" (defArgs st182) (defBody st182) (defScope st182) .none kV182 dc182 pm182 an182 cd182 ct182) ⟨us, []⟩ = pure ((["_law_script"] : List Str).zip us) := fun us hl => match us, hl with | [_], _ => rfl
  refine end2 tx (f := 182) (fd := fd182) rfl rfl rfl law l182 c182 hb
end seekways_k24_trees
end Q
open PySem PySem.W PyProof.Rows
set_option maxRecDepth 100000 in
set_option maxHeartbeats 0 in
theorem PySem.Challenge.cw_seekways_k24_trees_holds : PySem.Challenge.rw_seekways_k24_trees.Holds := by
  w_on; o_law; k_head; (case hw => w_witness2)
  k_fill
  refine Q.walkG (l := PySem.Challenge.rw_seekways_k24_trees) (n := 63) (k := 28) (x := "_law_script") rfl (by decide) rfl ⟨rfl, by decide, by decide⟩ (fun w h Y => PySem.W.kIn_of Y) ?F
  case F =>
    intro w mg fa h KX G hmg
    refine' Q.seekways_k24_trees.all_mk KX G hmg ?l1 ?c1 ?k1 ?l49 ?c49 ?k49 ?l161 ?c161 ?k161 ?l171 ?c171 ?k171 ?l172 ?c172 ?k172 ?l173 ?c173 ?k173 ?l174 ?c174 ?k174 ?l175 ?c175 ?k175 ?l4 ?c4 ?k4 ?l51 ?c51 ?k51 ?l52 ?c52 ?k52 ?l53 ?c53 ?k53 ?l54 ?c54 ?k54 ?l55 ?c55 ?k55 ?l56 ?c56 ?k56 ?l57 ?c57 ?k57 ?l58 ?c58 ?k58 ?l59 ?c59 ?k59 ?l61 ?c61 ?k61 ?l163 ?c163 ?k163 ?l63 ?c63 ?k63 ?l23 ?c23 ?k23 ?l24 ?c24 ?k24 ?l38 ?c38 ?k38 ?l39 ?c39 ?k39 ?l40 ?c40 ?k40 ?l41 ?c41 ?k41 ?l76 ?c76 ?k76 ?l176 ?c176 ?k176 ?l165 ?c165 ?k165 ?l177 ?c177 ?k177 ?l178 ?c178 ?k178 ?l179 ?c179 ?k179 ?l180 ?c180 ?k180 ?l181 ?c181 ?k181 ?l182 ?c182 ?k182 ?a1 ?a49 ?a161 ?a171 ?a172 ?a173 ?a174 ?a51 ?a52 ?a53 ?a54 ?a55 ?a56 ?a57 ?a23 ?a24 ?a38 ?a39 ?a40 ?a41 ?a76 ?a176 ?a165 ?a177 ?a178 ?a179 ?a180 ?a181 ?a182 ?a175 ?aC3 ?pg3 ?hd3 ?po3 ?sa3 ?mk3 ?kc3 ?i3 ?m3_8 ?m3_11 ?m3_3 ?m3_6 ?m3_18 ?fn58 ?fn61 ?fn4 ?fn163 ?fn63 ?fn59 ?n3_17 ?n3_15 ?n3_14 ?n3_16 ?gc_MOST_LEAVES ?gc_MOST_TOLD ?gc_MOST_TURNS ?gc_MOST_HEADS ?gc_MOST_NAME ?gc_MOST_BOUND ?gc_MOST_NEXTS ?gc_MOST_COST ?z_abs ?z_all ?z_bool ?z_enumerate ?z_int ?z_isinstance ?z_len ?z_list ?z_max ?z_range ?z_str ?z_tuple ?z_zip ?kw58_turns ?kw58_ends ?kw58_heads ?kw175_cuts ?le0 Q.seekways_k24_trees.law_true
    (case a1 => k_is)
    (case a49 => k_is)
    (case a161 => k_is)
    (case a171 => k_is)
    (case a172 => k_is)
    (case a173 => k_is)
    (case a174 => k_is)
    (case a51 => k_is)
    (case a52 => k_is)
    (case a53 => k_is)
    (case a54 => k_is)
    (case a55 => k_is)
    (case a56 => k_is)
    (case a57 => k_is)
    (case a23 => k_is)
    (case a24 => k_is)
    (case a38 => k_is)
    (case a39 => k_is)
    (case a40 => k_is)
    (case a41 => k_is)
    (case a76 => k_is)
    (case a176 => k_is)
    (case a165 => k_is)
    (case a177 => k_is)
    (case a178 => k_is)
    (case a179 => k_is)
    (case a180 => k_is)
    (case a181 => k_is)
    (case a182 => k_is)
    (case a175 => k_is)
    (case aC3 => k_is)
    (case i3 => k_is)
    (case m3_8 => k_is)
    (case m3_11 => k_is)
    (case m3_3 => k_is)
    (case m3_6 => k_is)
    (case m3_18 => k_is)
    (case l1 => k_is)
    (case c1 => k_is)
    (case k1 => k_is)
    (case l49 => k_is)
    (case c49 => k_is)
    (case k49 => k_is)
    (case l161 => k_is)
    (case c161 => k_is)
    (case k161 => k_is)
    (case l171 => k_is)
    (case c171 => k_is)
    (case k171 => k_is)
    (case l172 => k_is)
    (case c172 => k_is)
    (case k172 => k_is)
    (case l173 => k_is)
    (case c173 => k_is)
    (case k173 => k_is)
    (case l174 => k_is)
    (case c174 => k_is)
    (case k174 => k_is)
    (case l175 => k_is)
    (case c175 => k_is)
    (case k175 => k_is)
    (case l4 => k_is)
    (case c4 => k_is)
    (case k4 => k_is)
    (case l51 => k_is)
    (case c51 => k_is)
    (case k51 => k_is)
    (case l52 => k_is)
    (case c52 => k_is)
    (case k52 => k_is)
    (case l53 => k_is)
    (case c53 => k_is)
    (case k53 => k_is)
    (case l54 => k_is)
    (case c54 => k_is)
    (case k54 => k_is)
    (case l55 => k_is)
    (case c55 => k_is)
    (case k55 => k_is)
    (case l56 => k_is)
    (case c56 => k_is)
    (case k56 => k_is)
    (case l57 => k_is)
    (case c57 => k_is)
    (case k57 => k_is)
    (case l58 => k_is)
    (case c58 => k_is)
    (case k58 => k_is)
    (case l59 => k_is)
    (case c59 => k_is)
    (case k59 => k_is)
    (case l61 => k_is)
    (case c61 => k_is)
    (case k61 => k_is)
    (case l163 => k_is)
    (case c163 => k_is)
    (case k163 => k_is)
    (case l63 => k_is)
    (case c63 => k_is)
    (case k63 => k_is)
    (case l23 => k_is)
    (case c23 => k_is)
    (case k23 => k_is)
    (case l24 => k_is)
    (case c24 => k_is)
    (case k24 => k_is)
    (case l38 => k_is)
    (case c38 => k_is)
    (case k38 => k_is)
    (case l39 => k_is)
    (case c39 => k_is)
    (case k39 => k_is)
    (case l40 => k_is)
    (case c40 => k_is)
    (case k40 => k_is)
    (case l41 => k_is)
    (case c41 => k_is)
    (case k41 => k_is)
    (case l76 => k_is)
    (case c76 => k_is)
    (case k76 => k_is)
    (case l176 => k_is)
    (case c176 => k_is)
    (case k176 => k_is)
    (case l165 => k_is)
    (case c165 => k_is)
    (case k165 => k_is)
    (case l177 => k_is)
    (case c177 => k_is)
    (case k177 => k_is)
    (case l178 => k_is)
    (case c178 => k_is)
    (case k178 => k_is)
    (case l179 => k_is)
    (case c179 => k_is)
    (case k179 => k_is)
    (case l180 => k_is)
    (case c180 => k_is)
    (case k180 => k_is)
    (case l181 => k_is)
    (case c181 => k_is)
    (case k181 => k_is)
    (case l182 => k_is)
    (case c182 => k_is)
    (case k182 => k_is)
    (case pg3 => k_is)
    (case hd3 => k_is)
    (case po3 => k_is)
    (case sa3 => k_is)
    (case mk3 => k_is)
    (case kc3 => k_is)
    (case fn58 => k_is)
    (case fn61 => k_is)
    (case fn4 => k_is)
    (case fn163 => k_is)
    (case fn63 => k_is)
    (case fn59 => k_is)
    (case n3_17 => k_is)
    (case n3_15 => k_is)
    (case n3_14 => k_is)
    (case n3_16 => k_is)
    (case gc_MOST_LEAVES => k_is)
    (case gc_MOST_TOLD => k_is)
    (case gc_MOST_TURNS => k_is)
    (case gc_MOST_HEADS => k_is)
    (case gc_MOST_NAME => k_is)
    (case gc_MOST_BOUND => k_is)
    (case gc_MOST_NEXTS => k_is)
    (case gc_MOST_COST => k_is)
    (case z_abs => k_is)
    (case z_all => k_is)
    (case z_bool => k_is)
    (case z_enumerate => k_is)
    (case z_int => k_is)
    (case z_isinstance => k_is)
    (case z_len => k_is)
    (case z_list => k_is)
    (case z_max => k_is)
    (case z_range => k_is)
    (case z_str => k_is)
    (case z_tuple => k_is)
    (case z_zip => k_is)
    (case kw58_turns => k_is)
    (case kw58_ends => k_is)
    (case kw58_heads => k_is)
    (case kw175_cuts => k_is)
    (case le0 => k_is)


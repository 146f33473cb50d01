import PyProof.Rows.All
import Wide.All
import OpenK.AllK
import Wide.FinOn
import HandS.ForMost
import HandS.ForExc
import HandS.Flow
import HandS.Deep
import HandS.TupMul
import HandS.TupAny
import HandS.Style
import KE.SortData
import KE.DataMinMax
import HandS.TupLen
import HandS.DictTup
import HandS.Walk
import KE.KRevSl
import HandS.ExcOwn
import HandS.WordsExc
import HandS.ExcIs
import PyProof.Rows.FactsN_isinstance
import KE.DataFind
import HandS.Ends
import PyProof.Rows.SeqGen
import PyProof.Rows.SeqCalls
import PyProof.Rows.FactsT3
import PyProof.Rows.FactsT1
import HandS.Set
import HandS.SetFor
import HandS.SetKeys
import KE.KDictSum
import HandS.ForSpec
import KE.RegKIsAll
import PySem.Challenge.RW_cellbag_k10_whole_books
/-! Mini: a small language with data by value and cells, and its evaluator. Pure Lean. -/
set_option autoImplicit false
namespace M

abbrev Tx := List Nat
inductive Ky where
  | i (n : Int) | s (x : Tx) | p (l : List (Sum Int Tx))
  deriving DecidableEq
/-- data: what is carried by value (a list, a dict, an instance that never changes again), a cell's number, a caught error's class -/
inductive D where
  | non | bl (b : Bool) | int (i : Int) | str (x : Tx)
  | tup (xs : List D) | lst (xs : List D) | dct (t : Bool) (ks : List Ky) (vs : List D) | ins (c : Nat) (ns : List Tx) (vs : List D)
  | rg (n : Nat) | exc (c : Nat) | scr (ns : List Int)
inductive Cell where
  | lst (xs : List D) | dct (t : Bool) (kvs : List (Ky × D)) | ins (c : Nat) (fs : List (Tx × D))
/-- a cell: locked while it is walked -/
structure CS where
  lk : Bool
  c : Cell
/-- the cells; the bounds below which what is stored must lie (one for each call that will drop its cells) -/
structure S where
  bs : List Nat
  cs : List CS
abbrev Env := List (Option D)

inductive R (α : Type) where
  | ok (a : α) (s : S) | exc (c : Nat) (s : S) | bad
inductive F where
  | nx (e : Env) (s : S) | rt (d : D) (s : S) | exc (c : Nat) (e : Env) (s : S) | bad
def R.bind {α β : Type} (x : R α) (f : α → S → R β) : R β :=
  match x with
  | .ok a s => f a s
  | .exc c s => .exc c s
  | .bad => .bad
/-- an expression within a statement -/
def R.st {α : Type} (x : R α) (env : Env) (f : α → S → F) : F :=
  match x with
  | .ok a s => f a s
  | .exc c s => .exc c env s
  | .bad => .bad
def optR {α : Type} (x : Option α) (s : S) : R α :=
  match x with
  | some a => .ok a s
  | none => .bad

def LIM : Nat := 16777216

/-! ### values -/
mutual
def eqD : D → D → Bool
  | .non, .non => true
  | .bl a, .bl b => a == b
  | .int a, .int b => a == b
  | .bl a, .int b => (cond a 1 0 : Int) == b
  | .int a, .bl b => a == (cond b 1 0 : Int)
  | .str a, .str b => a == b
  | .tup a, .tup b => eqDs a b
  | .lst a, .lst b => eqDs a b
  | _, _ => false
def eqDs : List D → List D → Bool
  | [], [] => true
  | a :: as, b :: bs => eqD a b && eqDs as bs
  | _, _ => false
end
mutual
/-- plain data: none, bools, ints, texts, tuples, lists; of a depth -/
def plainD : Nat → D → Bool
  | _, .non => true
  | _, .bl _ => true
  | _, .int _ => true
  | _, .str _ => true
  | n + 1, .tup xs => plainDs n xs
  | n + 1, .lst xs => plainDs n xs
  | _, _ => false
def plainDs : Nat → List D → Bool
  | _, [] => true
  | n, x :: xs => plainD n x && plainDs n xs
end
mutual
/-- to be compared by < -/
def alikeD : D → D → Bool
  | .bl _, .bl _ => true
  | .int _, .int _ => true
  | .str _, .str _ => true
  | .tup a, .tup b => alikeDs a b
  | .lst a, .lst b => alikeDs a b
  | _, _ => false
def alikeDs : List D → List D → Bool
  | a :: as, b :: bs => alikeD a b && alikeDs as bs
  | _, _ => true
end
mutual
def ltD : D → D → Bool
  | .bl a, .bl b => !a && b
  | .int a, .int b => decide (a < b)
  | .str a, .str b => decide (a < b)
  | .tup a, .tup b => ltDs a b
  | .lst a, .lst b => ltDs a b
  | _, _ => false
def ltDs : List D → List D → Bool
  | [], [] => false
  | [], _ :: _ => true
  | _ :: _, [] => false
  | a :: as, b :: bs => if eqD a b then ltDs as bs else ltD a b
end
/-- a list that sorted and min may take -/
def canSort (xs : List D) : Bool := xs.all (fun x => plainD 5 x && xs.all fun y => alikeD x y) && (xs.all (fun x => match x with | .tup (_ :: _) => true | _ => false) || xs.all fun x => match x with | .tup _ => false | _ => true)
def canMin (xs : List D) : Bool := xs.all fun x => plainD 5 x && xs.all fun y => alikeD x y
def sortD (xs : List D) : List D := xs.mergeSort fun a b => !ltD b a
def minD : List D → Option D
  | [] => none
  | x :: xs => some (xs.foldl (fun a y => if ltD y a then y else a) x)
def maxD : List D → Option D
  | [] => none
  | x :: xs => some (xs.foldl (fun a y => if ltD a y then y else a) x)

def kyD : Ky → D
  | .i n => .int n
  | .s x => .str x
  | .p l => .tup (l.map fun k => match k with | .inl n => .int n | .inr x => .str x)
def atomK : D → Option (Sum Int Tx)
  | .int n => some (.inl n)
  | .str x => some (.inr x)
  | _ => none
def atomsK : List D → Option (List (Sum Int Tx))
  | [] => some []
  | d :: ds => match atomK d, atomsK ds with
    | some a, some as => some (a :: as)
    | _, _ => none
def toKy : D → Option Ky
  | .int n => some (.i n)
  | .str x => some (.s x)
  | .tup l => (atomsK l).map .p
  | _ => none
/-- a key's kind: of a tuple -/
def Ky.t : Ky → Bool
  | .p _ => true
  | _ => false
def getK (kvs : List (Ky × D)) (k : Ky) : Option D := (kvs.find? fun p => decide (p.1 = k)).map (·.2)
def putK (kvs : List (Ky × D)) (k : Ky) (v : D) : List (Ky × D) :=
  if (kvs.any fun p => decide (p.1 = k)) = true then kvs.map (fun p => if p.1 = k then (p.1, v) else p) else kvs ++ [(k, v)]
def dropK (kvs : List (Ky × D)) (k : Ky) : List (Ky × D) := kvs.filter fun p => decide (p.1 ≠ k)
def putF (f : Tx) (v : D) : List (Tx × D) → List (Tx × D)
  | [] => [(f, v)]
  | (g, x) :: r => if g = f then (g, v) :: r else (g, x) :: putF f v r

def cellAt (s : S) (n : Nat) : Option Cell := (s.cs[n]?).map (·.c)
def setCell (s : S) (n : Nat) (c : Cell) : S := { s with cs := s.cs.set n ⟨false, c⟩ }
def newCell (s : S) (c : Cell) : S := { s with cs := s.cs ++ [⟨false, c⟩] }
def lockAt (s : S) (n : Nat) (b : Bool) : S := match s.cs[n]? with
  | some x => { s with cs := s.cs.set n ⟨b, x.c⟩ }
  | none => s
/-- no cell from n on within -/
def below (n : Nat) : Nat → D → Bool
  | _, .non => true
  | _, .bl _ => true
  | _, .int _ => true
  | _, .str _ => true
  | _, .exc _ => true
  | _, .scr _ => true
  | _, .rg k => decide (k < n)
  | m + 1, .tup xs => xs.all (below n m)
  | m + 1, .lst xs => xs.all (below n m)
  | m + 1, .dct _ _ vs => vs.all (below n m)
  | m + 1, .ins _ _ vs => vs.all (below n m)
  | _, _ => false
/-- v may be stored in the cell k -/
def mayPut (s : S) (k : Nat) (v : D) : Bool := s.bs.all fun b => decide (b ≤ k) || below b 8 v

/-- what == and its like read: cells of lists read off -/
def rd (s : S) : Nat → D → D
  | n + 1, .rg k => match cellAt s k with
    | some (.lst xs) => .lst (xs.map (rd s n))
    | _ => .rg k
  | _, d => d
def lstOf (s : S) : D → Option (List D)
  | .lst xs => some xs
  | .rg k => match cellAt s k with
    | some (.lst xs) => some xs
    | _ => none
  | _ => none
def seqOf (s : S) : D → Option (List D)
  | .tup xs => some xs
  | .scr ns => some (ns.map .int)
  | d => lstOf s d
def dctOf (s : S) : D → Option (Bool × List (Ky × D))
  | .dct t ks vs => some (t, ks.zip vs)
  | .rg k => match cellAt s k with
    | some (.dct t kvs) => some (t, kvs)
    | _ => none
  | _ => none
/-- a key of the dict's kind -/
def keyOf (t : Bool) (x : D) : Option Ky := (toKy x).bind fun k => if k.t == t then some k else none
def insOf (s : S) : D → Option (Nat × List (Tx × D))
  | .ins c ns vs => some (c, ns.zip vs)
  | .rg k => match s.cs[k]? with
    | some ⟨false, .ins c fs⟩ => some (c, fs)
    | _ => none
  | _ => none

def truD (s : S) (d : D) : Option Bool :=
  match d with
  | .non => some false
  | .bl b => some b
  | .int i => some (i != 0)
  | .str x => if x.length ≤ LIM then some (!x.isEmpty) else none
  | .tup xs => some (!xs.isEmpty)
  | .lst xs => some (!xs.isEmpty)
  | .scr ns => some (!ns.isEmpty)
  | .rg k => match cellAt s k with
    | some (.lst xs) => some (!xs.isEmpty)
    | _ => none
  | _ => none

inductive BOp where | add | sub | mul | fdiv | mod | pow
inductive COp where | eq | ne | lt | le | gt | ge | isN | notN | inn | nin
  deriving DecidableEq
def bint (o : BOp) (i j : Int) : Option Int :=
  match o with
  | .add => some (i + j)
  | .sub => some (i - j)
  | .mul => if (-(2 ^ 64) < i ∧ i < 2 ^ 64) ∨ (-(2 ^ 64) < j ∧ j < 2 ^ 64) then some (i * j) else none
  | .fdiv => if 0 < j ∧ j < 1073741824 then some (i / j) else none
  | .mod => if 0 < j then some (i % j) else none
  | .pow => if 0 ≤ j ∧ j ≤ 1000000 ∧ i.natAbs < 2 ^ 64 then some (i ^ j.toNat) else none
def repL {α : Type} (n : Nat) (xs : List α) : List α := (List.replicate n xs).flatten
def binD (s : S) (o : BOp) (x y : D) : Option D :=
  match x, y with
  | .int i, .int j => (bint o i j).map .int
  | .str a, .str b => match o with
    | .add => if a.length + b.length ≤ LIM then some (.str (a ++ b)) else none
    | _ => none
  | .str a, .int n => match o with
    | .mul => if n = 0 then some (.str []) else if n = 1 then some (.str a) else none
    | _ => none
  | .tup a, .int n => match o with
    | .mul => if a.isEmpty = false ∧ 2 ≤ n ∧ n ≤ 1000 ∧ a.length ≤ 1000 then some (.tup (repL n.toNat a)) else none
    | _ => none
  | .tup a, .tup b => match o with
    | .add => if a.isEmpty = false ∧ a.length + b.length ≤ LIM then some (.tup (a ++ b)) else none
    | _ => none
  | x, .int n => match o, lstOf s x with
    | .mul, some a => if 0 ≤ n ∧ a.length * n.toNat ≤ LIM ∧ n < 2 ^ 62 then some (.lst (repL n.toNat a)) else none
    | _, _ => none
  | x, y => match o, lstOf s x, lstOf s y with
    | .add, some a, some b => if a.length + b.length ≤ LIM then some (.lst (a ++ b)) else none
    | _, _, _ => none
/-- the one text within the other -/
def subAt : Tx → Tx → Bool
  | [], _ => true
  | a :: as, b :: bs => a == b && subAt as bs
  | _ :: _, [] => false
def inTx (a : Tx) : Tx → Bool
  | [] => subAt a []
  | b :: bs => subAt a (b :: bs) || inTx a bs
def inD (s : S) (x y : D) : Option Bool :=
  match y with
  | .str z => match x with
    | .str [c] => some (decide (c ∈ z))
    | _ => none
  | y => match dctOf s y with
    | some (t, kvs) => (keyOf t x).map fun k => (getK kvs k).isSome
    | none => match seqOf s y with
      | some ys =>
        let x' := rd s 3 x
        let zs := ys.map (rd s 3)
        if plainD 6 x' && plainDs 6 zs then some (zs.any fun z => eqD z x') else none
      | none => none
def cmpD (s : S) (o : COp) (x y : D) : Option Bool :=
  match o with
  | .isN => match y with
    | .non => match x with
      | .non => some true
      | _ => some false
    | _ => none
  | .notN => match y with
    | .non => match x with
      | .non => some false
      | _ => some true
    | _ => none
  | .inn => inD s x y
  | .nin => (inD s x y).map (!·)
  | .eq => let a := rd s 3 x; let b := rd s 3 y; if plainD 8 a && plainD 8 b then some (eqD a b) else none
  | .ne => let a := rd s 3 x; let b := rd s 3 y; if plainD 8 a && plainD 8 b then some (!eqD a b) else none
  | o => match x, y with
    | .int i, .int j => match o with
      | .lt => some (decide (i < j))
      | .le => some (decide (i ≤ j))
      | .gt => some (decide (j < i))
      | _ => some (decide (j ≤ i))
    | _, _ => none
/-- a place in a sequence -/
def ixN (n : Nat) (i : Int) : Option Nat :=
  if 0 ≤ i then (if i < n then some i.toNat else none) else if -(n : Int) ≤ i then some (i + n).toNat else none
def atI {α : Type} (xs : List α) (i : Int) : Option α := (ixN xs.length i).bind fun k => xs[k]?
def subD (s : S) (x i : D) : Option D :=
  match dctOf s x with
  | some (t, kvs) => (keyOf t i).bind (getK kvs)
  | none => match i with
    | .int i => match x with
      | .str z => if z.length ≤ LIM then (atI z i).map fun c => .str [c] else none
      | x => (seqOf s x).bind fun xs => atI xs i
    | _ => none
/-- a slice's end: within 0 .. n, d where it is left out -/
def clip (n d : Nat) : Option Int → Nat
  | none => d
  | some v => if v < 0 then (v + (n : Int)).toNat else min v.toNat n
def slcL {α : Type} (xs : List α) (lo hi : Option Int) : List α := (xs.drop (clip xs.length 0 lo)).take (clip xs.length xs.length hi - clip xs.length 0 lo)
def small62 (i : Int) : Bool := decide (-(2 ^ 62) ≤ i ∧ i < 2 ^ 62)
def optI : Option D → Option (Option Int)
  | none => some none
  | some (.int i) => some (some i)
  | some _ => none
def slcD (s : S) (x : D) (lo hi : Option D) : Option D :=
  match optI lo, optI hi with
  | some lo, some hi => match x with
    | .str z => if z.length ≤ LIM then some (.str (slcL z lo hi)) else none
    | .tup xs => some (.tup (slcL xs lo hi))
    | x => (lstOf s x).map fun xs => .lst (slcL xs lo hi)
  | _, _ => none
def revD (s : S) (x : D) : Option D :=
  match x with
  | .tup xs => some (.tup xs.reverse)
  | x => (lstOf s x).map fun xs => .lst xs.reverse
def intsOf : List D → Option (List Int)
  | [] => some []
  | .int i :: r => (intsOf r).map (i :: ·)
  | _ => none
def blsOf : List D → Option (List Bool)
  | [] => some []
  | .bl i :: r => (blsOf r).map (i :: ·)
  | _ => none
def txsOf : List D → Option (List Tx)
  | [] => some []
  | .str i :: r => (txsOf r).map (i :: ·)
  | _ => none
def joinT (sep : Tx) : List Tx → Tx
  | [] => []
  | [x] => x
  | x :: y :: r => x ++ sep ++ joinT sep (y :: r)
/-- a text cut at each sign c -/
def splitT (c : Nat) : Tx → List Tx
  | [] => [[]]
  | x :: r => if x = c then [] :: splitT c r else match splitT c r with
    | [] => [[x]]
    | y :: ys => (x :: y) :: ys
def showI (i : Int) : Tx := (toString i).toList.map Char.toNat
def readT : Nat → Tx → Option Nat
  | a, [] => some a
  | a, c :: r => if 48 ≤ c ∧ c ≤ 57 then readT (a * 10 + (c - 48)) r else none
/-- keep the first of each -/
def dedup : List Ky → List Ky
  | [] => []
  | k :: r => if k ∈ r then dedup r else k :: dedup r
def kysOf : List D → Option (List Ky)
  | [] => some []
  | d :: r => match toKy d, kysOf r with
    | some k, some ks => some (k :: ks)
    | _, _ => none

inductive BI where
  | len | sum | min1 | max1 | min2 | max2 | all | any | sorted | int | str | tuple | setLen | setSorted | dict
  deriving DecidableEq
def allNE (xs : List Tx) : Bool := xs.all fun x => decide (x.length ≤ LIM)
def callB (s : S) (b : BI) (xs : List D) : Option D :=
  match b, xs with
  | .len, [x] => match x with
    | .str z => if z.length ≤ LIM then some (.int z.length) else none
    | x => match dctOf s x with
      | some (_, kvs) => some (.int kvs.length)
      | none => (seqOf s x).map fun xs => .int xs.length
  | .sum, [x] => ((lstOf s x).bind intsOf).map fun ns => .int ns.sum
  | .min1, [x] => (lstOf s x).bind fun xs => if canMin xs then minD xs else none
  | .max1, [x] => (lstOf s x).bind fun xs => if canMin xs then maxD xs else none
  | .min2, [.int i, .int j] => some (.int (if j < i then j else i))
  | .max2, [.int i, .int j] => some (.int (if j > i then j else i))
  | .all, [x] => ((lstOf s x).bind blsOf).map fun bs => .bl (bs.all id)
  | .any, [x] => ((lstOf s x).bind blsOf).map fun bs => .bl (bs.any id)
  | .sorted, [x] => (lstOf s x).bind fun xs => if canSort xs && decide (xs.length ≤ LIM) then some (.lst (sortD xs)) else none
  | .int, [.int i] => some (.int i)
  | .int, [.bl b] => some (.int (cond b 1 0))
  | .str, [.int i] => if i.natAbs < 10 ^ 18 then some (.str (showI i)) else none
  | .tuple, [x] => (seqOf s x).map .tup
  | .setLen, [x] => ((lstOf s x).bind kysOf).bind fun ks => if ks.length ≤ 1000 then some (.int (dedup ks).length) else none
  | .setSorted, [x] => ((lstOf s x).bind kysOf).bind fun ks => if ks.length ≤ 1000 ∧ (ks.all fun k => !k.t) = true then
      let ys := (dedup ks).map kyD
      if canSort ys then some (.lst (sortD ys)) else none
    else none
  | _, _ => none

inductive BM where
  | append | extend | pop | get | index | count | join | split | dcopy
  deriving DecidableEq
def findIx (f : D → Bool) : List D → Nat → Option Nat
  | [], _ => none
  | x :: r, n => if f x then some n else findIx f r (n + 1)
def callM (s : S) (m : BM) (x : D) (as : List D) : R D :=
  match m, as with
  | .append, [y] => match x with
    | .rg k => match s.cs[k]? with
      | some ⟨false, .lst xs⟩ => if xs.length < LIM && mayPut s k y then .ok .non (setCell s k (.lst (xs ++ [y]))) else .bad
      | _ => .bad
    | _ => .bad
  | .extend, [y] => match x with
    | .rg k => match s.cs[k]?, lstOf s y with
      | some ⟨false, .lst xs⟩, some ys => if xs.length + ys.length ≤ LIM && ys.all (mayPut s k) then .ok .non (setCell s k (.lst (xs ++ ys))) else .bad
      | _, _ => .bad
    | _ => .bad
  | .pop, [y] => match x with
    | .rg k => match s.cs[k]? with
      | some ⟨false, .dct t kvs⟩ => match keyOf t y with
        | some q => match getK kvs q with
          | some v => .ok v (setCell s k (.dct t (dropK kvs q)))
          | none => .bad
        | none => .bad
      | _ => .bad
    | _ => .bad
  | .get, [y, z] => match dctOf s x with
    | some (t, kvs) => match keyOf t y with
      | some q => .ok ((getK kvs q).getD z) s
      | none => .bad
    | none => .bad
  | .index, [y] => match lstOf s x with
    | some xs => if plainD 6 y && plainDs 6 xs then optR ((findIx (fun z => eqD z y) xs 0).map fun (n : Nat) => D.int (n : Nat)) s else .bad
    | none => .bad
  | .count, [y] => match lstOf s x with
    | some xs => if plainD 6 y && plainDs 6 xs then .ok (.int (xs.filter fun z => eqD z y).length) s else .bad
    | none => .bad
  | .join, [y] => match x with
    | .str z => match (seqOf s y).bind txsOf with
      | some xs => if (xs.map List.length).sum + xs.length * z.length ≤ LIM then .ok (.str (joinT z xs)) s else .bad
      | none => .bad
    | _ => .bad
  | .split, [y] => match x with
    | .str z => match y with
      | .str [c] => if z.length + 2 ≤ LIM then .ok (.lst ((splitT c z).map .str)) s else .bad
      | _ => .bad
    | _ => .bad
  | .dcopy, [] => match dctOf s x with
    | some (t, kvs) => .ok (.rg s.cs.length) (newCell s (.dct t kvs))
    | none => .bad
  | _, _ => .bad

/-- the kind of thing that has the method -/
def bmOk (s : S) (m : BM) (x : D) : Bool := match m with
  | .append => (lstOf s x).isSome
  | .extend => (lstOf s x).isSome
  | .index => (lstOf s x).isSome
  | .count => (lstOf s x).isSome
  | .pop => (dctOf s x).isSome
  | .get => (dctOf s x).isSome
  | .dcopy => (dctOf s x).isSome
  | .join => match x with
    | .str _ => true
    | _ => false
  | .split => match x with
    | .str _ => true
    | _ => false

/-! ### the language -/
inductive IK where
  | e | rng1 | rng2 | keys | vals | keysV
  deriving DecidableEq
structure Tg where
  is : List Nat
  tup : Bool
inductive DE where
  | var (i : Nat) | con (d : D)
  | tup (es : List DE) | lst (cell : Bool) (es : List DE) | dct (t : Bool) (ks : List Tx) (es : List DE)
  | cat (a b : DE)
  | bin (o : BOp) (a b : DE) | cmp (o : COp) (a b : DE) | chain (o p : COp) (a b c : DE)
  | not (a : DE) | and (a b : DE) | or (a b : DE) | ifx (t a b : DE)
  | sub (a i : DE) | slc (a : DE) (lo hi : Option DE) | rev (a : DE)
  | att (c : Nat) (a : DE) (f : Tx)
  | call (fz : Bool) (f : Nat) (es : List DE)
  | meth (fz : Bool) (c f : Nat) (m : Tx) (a : DE) (es : List DE)
  | make (c f : Nat) (es : List DE)
  | bi (b : BI) (es : List DE)
  | bm (m : BM) (a : DE) (es : List DE)
  | keysL (srt : Bool) (a : DE)
  | keysBy (c f : Nat) (a self : DE)
  | isI (c : Option Nat) (a : DE)
  | lc (cell lk : Bool) (tg : Tg) (k : IK) (es : List DE) (cond : Option DE) (elt : DE) (own : List Nat)
  | rep (a b : DE) | isT (a : DE) | eqd (neg : Bool) (a b : DE) | mkd (a : DE)
  | lcx (tg : Tg) (es : List DE) (elt : DE) (own : List Nat)
inductive DS where
  | set (i : Nat) (e : DE) | setT (is : List Nat) (e : DE) | setL (is : List Nat) (e : DE) | par (is : List Nat) (es : List DE)
  | setA (c : Nat) (a : DE) (f : Tx) (e : DE) | setI (a i e : DE)
  | expr (e : DE) | ret (e : DE) | retN | ite (t : DE) (a b : List DS)
  | loop (lk : Bool) (tg : Tg) (k : IK) (es : List DE) (body : List DS)
  | whl (t : DE) (body : List DS)
  | tryE (body : List DS) (slot : Option Nat) (suite : List DS)
  | rais (c : Nat) | pass

structure Calls where
  fn : Nat → List D → S → R D

/-! ### freezing: what a call hands back by value -/
def mapO {α β : Type} (f : α → Option β) : List α → Option (List β)
  | [] => some []
  | x :: xs => match f x, mapO f xs with
    | some y, some ys => some (y :: ys)
    | _, _ => none
/-- a value whose new cells (from n on) are read off for good -/
def frz (s : S) (n : Nat) : Nat → D → Option D
  | _, .non => some .non
  | _, .bl b => some (.bl b)
  | _, .int i => some (.int i)
  | _, .str x => some (.str x)
  | m + 1, .tup xs => (mapO (frz s n m) xs).map .tup
  | m + 1, .lst xs => (mapO (frz s n m) xs).map .lst
  | m + 1, .dct t ks vs => (mapO (frz s n m) vs).map (.dct t ks)
  | m + 1, .ins c ns vs => (mapO (frz s n m) vs).map (.ins c ns)
  | m + 1, .rg k => if k < n then some (.rg k) else match s.cs[k]? with
    | some ⟨false, .lst xs⟩ => (mapO (frz s n m) xs).map .lst
    | some ⟨false, .dct t kvs⟩ => (mapO (frz s n m) (kvs.map (·.2))).map (.dct t (kvs.map (·.1)))
    | some ⟨false, .ins c fs⟩ => (mapO (frz s n m) (fs.map (·.2))).map (.ins c (fs.map (·.1)))
    | _ => none
  | _, _ => none
/-- behind a call that drops its cells -/
def dropTo (s s' : S) : S := ⟨s.bs, s'.cs.take s.cs.length⟩
def Calls.fnF (K : Calls) (f : Nat) (as : List D) (s : S) : R D :=
  match K.fn f as ⟨s.cs.length :: s.bs, s.cs⟩ with
  | .ok d s' => if s'.bs = s.cs.length :: s.bs then match frz s' s.cs.length 8 d with
    | some d' => .ok d' (dropTo s s')
    | none => .bad
    else .bad
  | .exc c s' => if s'.bs = s.cs.length :: s.bs then .exc c (dropTo s s') else .bad
  | .bad => .bad
def Calls.go (K : Calls) (fz : Bool) (f : Nat) (as : List D) (s : S) : R D := if fz then K.fnF f as s else K.fn f as s

/-! ### running -/
/-- what is walked: the items, and the cell that is locked meanwhile -/
def items (s : S) (k : IK) (ds : List D) : Option (List D × Option Nat) :=
  match k, ds with
  | .e, [d] => match d with
    | .tup xs => some (xs, none)
    | .lst xs => some (xs, none)
    | .str x => some (x.map fun c => .str [c], none)
    | .rg n => match s.cs[n]? with
      | some ⟨l, .lst xs⟩ => some (xs, if l then none else some n)
      | _ => none
    | _ => none
  | .rng1, [.int j] => if small62 j then some ((List.range j.toNat).map fun (i : Nat) => D.int (i : Nat), none) else none
  | .rng2, [.int i, .int j] => if small62 i && small62 j then some ((List.range (j - i).toNat).map fun (k : Nat) => D.int (i + (k : Nat)), none) else none
  | .keys, [d] => match d with
    | .rg n => match s.cs[n]? with
      | some ⟨l, .dct false kvs⟩ => some (kvs.map fun p => kyD p.1, if l then none else some n)
      | _ => none
    | _ => none
  | .vals, [d] => match d with
    | .rg n => match s.cs[n]? with
      | some ⟨l, .dct false kvs⟩ => some (kvs.map (·.2), if l then none else some n)
      | _ => none
    | _ => none
  | .keysV, [d] => match d with
    | .dct false ks _ => some (ks.map kyD, none)
    | _ => none
  | _, _ => none
/-- the targets' slots are given the item's parts -/
def setAll : List Nat → List D → Env → Option Env
  | [], [], e => some e
  | i :: is, d :: ds, e => if i < e.length then setAll is ds (e.set i (some d)) else none
  | _, _, _ => none
def bindT (s : S) (t : Tg) (d : D) (e : Env) : Option Env :=
  if t.tup then match d with
    | .tup ds => setAll t.is ds e
    | _ => none
  else match t.is with
    | [i] => if i < e.length then some (e.set i (some d)) else none
    | _ => none
def wipe (e : Env) : List Nat → Env
  | [] => e
  | v :: vs => (wipe e vs).set v none
/-- the turns of a comprehension -/
def lcL (turn : D → S → R (Option D)) : List D → S → R (List D)
  | [], s => .ok [] s
  | x :: xs, s => (turn x s).bind fun o s => (lcL turn xs s).bind fun ys s => .ok (match o with | some y => y :: ys | none => ys) s
/-- no error leaves a comprehension here -/
def noX {α : Type} (r : R α) : R α := match r with
  | .exc _ _ => .bad
  | r => r
def forL (turn : D → Env → S → F) : List D → Env → S → F
  | [], e, s => .nx e s
  | x :: xs, e, s => match turn x e s with
    | .nx e s => forL turn xs e s
    | r => r
def whlL (t : Env → S → R Bool) (turn : Env → S → F) : Nat → Env → S → F
  | 0, _, _ => .bad
  | n + 1, e, s => (t e s).st e fun b s => if b then match turn e s with
      | .nx e s => whlL t turn n e s
      | r => r
    else .nx e s
/-- the cell that is walked: an unlocked list or dict -/
def lockCell (s : S) (r : R (List D)) : Option Nat := match r with
  | .ok [.rg n] _ => match s.cs[n]? with
    | some ⟨false, .lst _⟩ => some n
    | some ⟨false, .dct _ _⟩ => some n
    | _ => none
  | _ => none
/-- run while a cell is locked -/
def lockF (r : R (List D)) (s : S) (go : S → F) : F := match lockCell s r with
  | some n => match go (lockAt s n true) with
    | .nx e s => .nx e (lockAt s n false)
    | .rt d s => .rt d (lockAt s n false)
    | r => r
  | none => .bad
def lockE (r : R (List D)) (s : S) (go : S → R D) : R D := match lockCell s r with
  | some n => match go (lockAt s n true) with
    | .ok d s => .ok d (lockAt s n false)
    | r => r
  | none => .bad
/-- the truth of what an expression gives -/
def tru (r : R D) : R Bool := r.bind fun d s => optR (truD s d) s
def keysOf (s : S) (x : D) : Option (List D) := match dctOf s x with
  | some (false, kvs) => some (kvs.map fun p => kyD p.1)
  | _ => none
/-- dicts of plain values, compared -/
def eqKs (a b : List (Ky × D)) : Bool := decide (a.length = b.length) && a.all fun p => match getK b p.1 with
  | some v => eqD p.2 v
  | none => false
def eqDctO (s : S) (x y : D) : Option Bool := match dctOf s x, dctOf s y with
  | some (false, a), some (false, b) => if a.all (fun p => plainD 4 p.2) && b.all (fun p => plainD 4 p.2) then some (eqKs a b) else none
  | _, _ => none
/-- the pairs of a list, as a dict's -/
def pairsO : List D → Option (List (Ky × D))
  | [] => some []
  | .tup [.str k, v] :: r => (pairsO r).map ((.s k, v) :: ·)
  | _ => none
def isTO : D → Option Bool
  | .tup _ => some true
  | .non => some false
  | .bl _ => some false
  | .int _ => some false
  | .str _ => some false
  | _ => none
/-- sorted by keys that calls give -/
def sortBy (ks : List (D × D)) : List D := (ks.mergeSort fun a b => !ltD b.1 a.1).map (·.2)
mutual
def evE (K : Calls) : DE → Env → S → R D
  | .var i, e, s => match e[i]? with
    | some (some d) => .ok d s
    | _ => .bad
  | .con d, _, s => .ok d s
  | .tup es, e, s => (evEs K es e s).bind fun ds s => if ds.length ≤ LIM then .ok (.tup ds) s else .bad
  | .lst c es, e, s => (evEs K es e s).bind fun ds s => if ds.length ≤ LIM then (if c then .ok (.rg s.cs.length) (newCell s (.lst ds)) else .ok (.lst ds) s) else .bad
  | .dct t ks es, e, s => (evEs K es e s).bind fun ds s => .ok (.rg s.cs.length) (newCell s (.dct t (ks.map Ky.s |>.zip ds)))
  | .bin o a b, e, s => (evE K a e s).bind fun x s => (evE K b e s).bind fun y s => optR (binD s o x y) s
  | .cat a b, e, s => (evE K a e s).bind fun x s => (evE K b e s).bind fun y s => match lstOf s x, lstOf s y with
    | some xs, some ys => if xs.length + ys.length ≤ LIM then .ok (.rg s.cs.length) (newCell s (.lst (xs ++ ys))) else .bad
    | _, _ => .bad
  | .cmp o a b, e, s => (evE K a e s).bind fun x s => (evE K b e s).bind fun y s => optR ((cmpD s o x y).map .bl) s
  | .chain o p a b c, e, s => (evE K a e s).bind fun x s => (evE K b e s).bind fun y s => (optR (cmpD s o x y) s).bind fun t s =>
      if t then (evE K c e s).bind fun z s => optR ((cmpD s p y z).map .bl) s else .ok (.bl false) s
  | .not a, e, s => (tru (evE K a e s)).bind fun t s => .ok (.bl !t) s
  | .and a b, e, s => (evE K a e s).bind fun x s => (optR (truD s x) s).bind fun t s => if t then evE K b e s else .ok x s
  | .or a b, e, s => (evE K a e s).bind fun x s => (optR (truD s x) s).bind fun t s => if t then .ok x s else evE K b e s
  | .ifx t a b, e, s => (tru (evE K t e s)).bind fun t s => if t then evE K a e s else evE K b e s
  | .sub a i, e, s => (evE K a e s).bind fun x s => (evE K i e s).bind fun i s => optR (subD s x i) s
  | .slc a lo hi, e, s => (evE K a e s).bind fun x s => (evO K lo e s).bind fun lo s => (evO K hi e s).bind fun hi s => optR (slcD s x lo hi) s
  | .rev a, e, s => (evE K a e s).bind fun x s => optR (revD s x) s
  | .att c a f, e, s => (evE K a e s).bind fun x s => optR ((insOf s x).bind fun p => if p.1 = c then p.2.lookup f else none) s
  | .call fz f es, e, s => (evEs K es e s).bind fun ds s => K.go fz f ds s
  | .meth fz c f m a es, e, s => (evE K a e s).bind fun x s => match insOf s x with
    | some (c', fs) => if c' = c ∧ fs.lookup m = none then (evEs K es e s).bind fun ds s => K.go fz f (x :: ds) s else .bad
    | none => .bad
  | .make c f es, e, s => (evEs K es e s).bind fun ds s => (K.fn f (.rg s.cs.length :: ds) (newCell s (.ins c []))).bind fun d s' => match d with
    | .non => .ok (.rg s.cs.length) s'
    | _ => .bad
  | .bi b es, e, s => (evEs K es e s).bind fun ds s => optR (callB s b ds) s
  | .bm m a es, e, s => (evE K a e s).bind fun x s => if bmOk s m x = true then (evEs K es e s).bind fun ds s => callM s m x ds else .bad
  | .keysL srt a, e, s => (evE K a e s).bind fun x s => optR ((keysOf s x).bind fun ks => if srt then (if canSort ks && decide (ks.length ≤ 1000) then some (.lst (sortD ks)) else none) else some (.lst ks)) s
  | .keysBy c f a self, e, s => (evE K a e s).bind fun x s => (evE K self e s).bind fun y s => match insOf s y with
    | some (c', _) => if c' = c then match keysOf s x with
        | some ks => (lcL (fun k s0 => (K.fnF f [y, k] s0).bind fun q s1 => .ok (some q) s1) ks s).bind fun qs s => if canSort qs then .ok (.lst (sortBy (qs.zip ks))) s else .bad
        | none => .bad
      else .bad
    | none => .bad
  | .isI c a, e, s => (evE K a e s).bind fun x s => match x with
    | .exc k => if k < 16 then .ok (.bl (match c with | some c => decide (c = k) | none => true)) s else .bad
    | _ => .bad
  | .lc cell lk tg k es cond elt own, e, s =>
    let go : S → R D := fun s => (evEs K es e s).bind fun ds s => match items s k ds with
      | some (xs, none) => if xs.length ≤ LIM then
          (noX (lcL (fun x s => match bindT s tg x (wipe e own) with
            | some e => (match cond with
              | none => R.ok true s
              | some c => tru (evE K c e s)).bind fun b s => if b then (evE K elt e s).bind fun y s => .ok (some y) s else .ok none s
            | none => .bad) xs s)).bind fun ys s =>
          if cell then .ok (.rg s.cs.length) (newCell s (.lst ys)) else .ok (.lst ys) s
        else .bad
      | _ => .bad
    if lk then lockE (evEs K es e s) s go else go s
  | .rep a b, e, s => (evE K a e s).bind fun x s => (evE K b e s).bind fun y s => match binD s .mul x y with
    | some (.lst xs) => .ok (.rg s.cs.length) (newCell s (.lst xs))
    | _ => .bad
  | .isT a, e, s => (evE K a e s).bind fun x s => optR ((isTO x).map .bl) s
  | .eqd n a b, e, s => (evE K a e s).bind fun x s => (evE K b e s).bind fun y s => optR ((eqDctO s x y).map fun t => .bl (t != n)) s
  | .mkd a, e, s => (evE K a e s).bind fun x s => match (lstOf s x).bind pairsO with
    | some kvs => if kvs.length ≤ 1000 then .ok (.rg s.cs.length) (newCell s (.dct false (kvs.foldl (fun m p => putK m p.1 p.2) []))) else .bad
    | none => .bad
  | .lcx tg es elt own, e, s => (evEs K es e s).bind fun ds s => match items s .e ds with
      | some (xs, none) => if xs.length ≤ LIM then
          (lcL (fun x s => match bindT s tg x (wipe e own) with
            | some e => (evE K elt e s).bind fun y s => .ok (some y) s
            | none => .bad) xs s).bind fun ys s => .ok (.lst ys) s
        else .bad
      | _ => .bad
def evEs (K : Calls) : List DE → Env → S → R (List D)
  | [], _, s => .ok [] s
  | x :: xs, e, s => (evE K x e s).bind fun d s => (evEs K xs e s).bind fun ds s => .ok (d :: ds) s
def evO (K : Calls) : Option DE → Env → S → R (Option D)
  | none, _, s => .ok none s
  | some x, e, s => (evE K x e s).bind fun d s => match d with
    | .int i => .ok (some (.int i)) s
    | _ => .bad
end
mutual
def evS (K : Calls) : DS → Env → S → F
  | .set i a, e, s => (evE K a e s).st e fun d s => if i < e.length then .nx (e.set i (some d)) s else .bad
  | .setT is a, e, s => (evE K a e s).st e fun d s => match d with
    | .tup ds => match setAll is ds e with
      | some e => .nx e s
      | none => .bad
    | _ => .bad
  | .setL is a, e, s => (evE K a e s).st e fun d s => match d with
    | .lst ds => match setAll is ds e with
      | some e => .nx e s
      | none => .bad
    | _ => .bad
  | .par is es, e, s => (evEs K es e s).st e fun ds s => match setAll is ds e with
    | some e => .nx e s
    | none => .bad
  | .setA c a f v, e, s => (evE K v e s).st e fun d s => (evE K a e s).st e fun x s => match x with
    | .rg k => match s.cs[k]? with
      | some ⟨false, .ins c' fs⟩ => if c' = c ∧ mayPut s k d = true ∧ fs.length < 100 then .nx e (setCell s k (.ins c (putF f d fs))) else .bad
      | _ => .bad
    | _ => .bad
  | .setI a i v, e, s => (evE K v e s).st e fun d s => (evE K a e s).st e fun x s => (evE K i e s).st e fun i s => match x with
    | .rg k => match s.cs[k]? with
      | some ⟨false, .dct t kvs⟩ => match keyOf t i with
        | some q => if mayPut s k d && decide (kvs.length < LIM) then .nx e (setCell s k (.dct t (putK kvs q d))) else .bad
        | none => .bad
      | some ⟨false, .lst xs⟩ => match i with
        | .int i => match ixN xs.length i with
          | some j => if mayPut s k d then .nx e (setCell s k (.lst (xs.set j d))) else .bad
          | none => .bad
        | _ => .bad
      | _ => .bad
    | _ => .bad
  | .expr a, e, s => (evE K a e s).st e fun _ s => .nx e s
  | .ret a, e, s => (evE K a e s).st e fun d s => .rt d s
  | .retN, _, s => .rt .non s
  | .ite t a b, e, s => (tru (evE K t e s)).st e fun t s => if t then evSs K a e s else evSs K b e s
  | .loop lk tg k es body, e, s =>
    let go : S → F := fun s => (evEs K es e s).st e fun ds s => match items s k ds with
      | some (xs, none) => forL (fun x e s => match bindT s tg x e with
        | some e => evSs K body e s
        | none => .bad) xs e s
      | _ => .bad
    if lk then lockF (evEs K es e s) s go else go s
  | .whl t body, e, s => whlL (fun e s => tru (evE K t e s)) (fun e s => evSs K body e s) 300 e s
  | .tryE body slot suite, e, s => match evSs K body e s with
    | .exc c e' s' => if c < 16 then match slot with
      | none => evSs K suite e' s'
      | some i => if i < e'.length then match evSs K suite (e'.set i (some (.exc c))) s' with
          | .nx e s => .nx (e.set i none) s
          | .rt d s => .rt d s
          | _ => .bad
        else .bad
      else .bad
    | r => r
  | .rais c, e, s => .exc c e s
  | .pass, e, s => .nx e s
def evSs (K : Calls) : List DS → Env → S → F
  | [], e, s => .nx e s
  | x :: xs, e, s => match evS K x e s with
    | .nx e s => evSs K xs e s
    | r => r
end
/-- a def: its parameters, its slots, its body -/
structure FD where
  np : Nat
  nl : Nat
  body : List DS
def retOf : F → R D
  | .nx _ s => .ok .non s
  | .rt d s => .ok d s
  | .exc c _ s => .exc c s
  | .bad => .bad
def runF (T : Nat → Option FD) : Nat → Nat → List D → S → R D
  | 0, _, _, _ => .bad
  | k + 1, f, as, s => match T f with
    | some fd => if as.length = fd.np then retOf (evSs ⟨runF T k⟩ fd.body (as.map some ++ List.replicate (fd.nl - fd.np) none) s) else .bad
    | none => .bad
abbrev KF (T : Nat → Option FD) (k : Nat) : Calls := ⟨runF T k⟩
end M

set_option autoImplicit false
namespace Law
open M
/-- look_shape (k01) -/
def b_look_shape : List DS := [
  .set 1 (.and (.chain .le .le (.con (.int 1)) (.bi .len [.var 0]) (.con (.int 4))) (.chain .le .le (.con (.int 1)) (.bi .len [.sub (.var 0) (.con (.int 0))]) (.con (.int 4)))),
  .ite (.or (.not (.var 1)) (.not (.bi .all [.lc false false ⟨[2], false⟩ .e [.var 0] none (.cmp .eq (.bi .len [.var 2]) (.bi .len [.sub (.var 0) (.con (.int 0))])) [2]]))) [.rais 1] [],
  .ite (.not (.bi .all [.lc false false ⟨[3], false⟩ .e [.bm .join (.con (.str [])) [.var 0]] none (.cmp .inn (.var 3) (.tup [.con (.str [35]), .con (.str [46])])) [3]])) [.rais 1] [],
  .ite (.not (.bi .all [.lc false false ⟨[2], false⟩ .e [.tup [.sub (.var 0) (.con (.int 0)), .sub (.var 0) (.con (.int (-1)))]] none (.cmp .inn (.con (.str [35])) (.var 2)) [2]])) [.rais 1] [],
  .ite (.not (.bi .all [.lc false false ⟨[4], false⟩ .e [.tup [.con (.int 0), .con (.int (-1))]] none (.bi .any [.lc false false ⟨[2], false⟩ .e [.var 0] none (.cmp .eq (.sub (.var 2) (.var 4)) (.con (.str [35]))) [2]]) [4]])) [.rais 1] []]
/-- turn_once (k01) -/
def b_turn_once : List DS := [
  .ret (.bi .tuple [.lc false false ⟨[1], false⟩ .rng1 [.bi .len [.sub (.var 0) (.con (.int 0))]] none (.bm .join (.con (.str [])) [.lc false false ⟨[2], false⟩ .e [.rev (.var 0)] none (.sub (.var 2) (.var 1)) [2]]) [1]])]
/-- turned (k01) -/
def b_turned : List DS := [
  .expr (.call true 0 [.var 0]),
  .loop false ⟨[2], false⟩ .rng1 [.bin .mod (.var 1) (.con (.int 4))] [.set 0 (.call true 1 [.var 0])],
  .ret (.var 0)]
/-- cells (k01) -/
def b_cells : List DS := [
  .expr (.call true 0 [.var 0]),
  .set 1 (.lst true []),
  .loop false ⟨[2], false⟩ .rng1 [.bi .len [.var 0]] [.expr (.bm .extend (.var 1) [.lc false false ⟨[3], false⟩ .rng1 [.bi .len [.sub (.var 0) (.con (.int 0))]] (some (.cmp .eq (.sub (.sub (.var 0) (.var 2)) (.var 3)) (.con (.str [35])))) (.tup [.var 2, .var 3]) [3]])],
  .ret (.var 1)]
/-- size (k01) -/
def b_size : List DS := [
  .set 1 (.call true 3 [.var 0]),
  .ret (.tup [.bi .len [.var 0], .bi .len [.sub (.var 0) (.con (.int 0))], .bi .len [.var 1]])]
/-- turns_of (k01) -/
def b_turns_of : List DS := [
  .expr (.call true 0 [.var 0]),
  .set 1 (.lst true []),
  .loop false ⟨[2], false⟩ .rng1 [.con (.int 4)] [.ite (.cmp .nin (.call true 2 [.var 0, .var 2]) (.lc false true ⟨[3], false⟩ .e [.var 1] none (.call true 2 [.var 0, .var 3]) [3])) [.expr (.bm .append (.var 1) [.var 2])] []],
  .ret (.var 1)]
/-- is_alike (k01) -/
def b_is_alike : List DS := [
  .expr (.call true 0 [.var 1]),
  .ret (.cmp .inn (.var 1) (.lc false false ⟨[2], false⟩ .rng1 [.con (.int 4)] none (.call true 2 [.var 0, .var 2]) [2]))]
/-- _law_cell (k01) -/
def b__law_cell : List DS := [
  .ite (.var 0) [.ret (.sub (.var 0) (.bin .mod (.var 1) (.bi .len [.var 0])))] [],
  .ret (.con (.int 0))]
/-- _law_mix (k01) -/
def b__law_mix : List DS := [
  .set 2 (.bin .mod (.bin .add (.call true 7 [.var 0, .var 1]) (.bin .mul (.con (.int 104729)) (.bin .add (.var 1) (.con (.int 1))))) (.con (.int 4294967291))),
  .set 2 (.bin .mod (.bin .pow (.var 2) (.con (.int 5))) (.con (.int 4294967279))),
  .ret (.bin .mod (.bin .add (.bin .mul (.bin .fdiv (.var 2) (.con (.int 64))) (.con (.int 69621))) (.var 2)) (.con (.int 4294967231)))]
/-- _law_draw (k01) -/
def b__law_draw : List DS := [
  .expr (.bm .append (.var 1) [.con (.int 0)]),
  .ret (.bin .mod (.bin .fdiv (.call true 8 [.var 0, .bi .len [.var 1]]) (.con (.int 8))) (.var 2))]
/-- _law_pick (k01) -/
def b__law_pick : List DS := [
  .ret (.sub (.var 2) (.call true 9 [.var 0, .var 1, .bi .len [.var 2]]))]
/-- _law_refusal (k01) -/
def b__law_refusal : List DS := [
  .ite (.cmp .isN (.var 0) (.con .non)) [.ret (.tup [.con (.str [111, 107])])] [],
  .set 1 (.lst true [.isI (some 1) (.var 0), .isI (some 2) (.var 0), .isI (some 3) (.var 0)]),
  .set 1 (.cat (.var 1) (.lst false [.isI (some 4) (.var 0), .isI (some 5) (.var 0), .isI (some 6) (.var 0)])),
  .expr (.bm .append (.var 1) [.isI (some 7) (.var 0)]),
  .ite (.or (.cmp .ne (.bm .count (.var 1) [.con (.bl true)]) (.con (.int 1))) (.not (.isI none (.var 0)))) [.ret (.tup [.con (.str [119, 114, 111, 110, 103])])] [],
  .ret (.tup [.con (.str [114, 101, 102, 117, 115, 101, 100]), .sub (.lst false [.con (.str [115, 104, 97, 112, 101]), .con (.str [107, 105, 110, 100]), .con (.str [110, 117, 109, 98, 101, 114]), .con (.str [112, 108, 97, 99, 101]), .con (.str [112, 105, 108, 101]), .con (.str [115, 108, 111, 116]), .con (.str [116, 101, 120, 116])]) (.bm .index (.var 1) [.con (.bl true)])])]
/-- _law_shape (k01) -/
def b__law_shape : List DS := [
  .set 3 (.bin .add (.con (.int 1)) (.call true 9 [.var 0, .var 1, .var 2])),
  .set 4 (.bin .add (.con (.int 1)) (.call true 9 [.var 0, .var 1, .var 2])),
  .set 5 (.lst true [.tup [.call true 9 [.var 0, .var 1, .var 3], .call true 9 [.var 0, .var 1, .var 4]]]),
  .loop false ⟨[6], false⟩ .rng1 [.var 3] [.loop false ⟨[7], false⟩ .rng1 [.var 4] [.ite (.cmp .gt (.call true 9 [.var 0, .var 1, .con (.int 5)]) (.con (.int 1))) [.expr (.bm .append (.var 5) [.tup [.var 6, .var 7]])] []]],
  .set 8 (.lc false true ⟨[6, 7], true⟩ .e [.var 5] none (.var 6) [6, 7]),
  .set 9 (.lc false true ⟨[6, 7], true⟩ .e [.var 5] none (.var 7) [6, 7]),
  .set 10 (.lst true []),
  .loop false ⟨[6], false⟩ .rng2 [.bi .min1 [.var 8], .bin .add (.bi .max1 [.var 8]) (.con (.int 1))] [.set 11 (.lc false false ⟨[7], false⟩ .rng2 [.bi .min1 [.var 9], .bin .add (.bi .max1 [.var 9]) (.con (.int 1))] none (.bin .add (.con (.str [46])) (.bin .mul (.con (.str [35])) (.bi .int [.cmp .inn (.tup [.var 6, .var 7]) (.var 5)]))) [7]),
  .expr (.bm .append (.var 10) [.bm .join (.con (.str [])) [.lc false false ⟨[12], false⟩ .e [.var 11] none (.sub (.var 12) (.con (.int (-1)))) [12]]])],
  .ret (.bi .tuple [.var 10])]
/-- _law_cells (k01) -/
def b__law_cells : List DS := [
  .set 2 (.lst false []),
  .loop false ⟨[3], false⟩ .rng1 [.bi .len [.var 0]] [.set 2 (.bin .add (.var 2) (.lc false false ⟨[4], false⟩ .rng1 [.bi .len [.sub (.var 0) (.con (.int 0))]] (some (.cmp .eq (.sub (.sub (.var 0) (.var 3)) (.var 4)) (.con (.str [35])))) (.tup [.var 3, .var 4]) [4]))],
  .loop false ⟨[5], false⟩ .rng1 [.bin .mod (.var 1) (.con (.int 4))] [.set 2 (.lc false false ⟨[3, 4], true⟩ .e [.var 2] none (.tup [.var 4, .bin .sub (.con (.int 0)) (.var 3)]) [3, 4])],
  .set 6 (.bi .min1 [.lc false false ⟨[3, 4], true⟩ .e [.var 2] none (.var 3) [3, 4]]),
  .set 7 (.bi .min1 [.lc false false ⟨[3, 4], true⟩ .e [.var 2] none (.var 4) [3, 4]]),
  .ret (.bi .sorted [.lc false false ⟨[3, 4], true⟩ .e [.var 2] none (.tup [.bin .sub (.var 3) (.var 6), .bin .sub (.var 4) (.var 7)]) [3, 4]])]
/-- _law_drawn (k01) -/
def b__law_drawn : List DS := [
  .set 1 (.bin .add (.con (.int 1)) (.bi .max1 [.lc false false ⟨[2, 3], true⟩ .e [.var 0] none (.var 2) [2, 3]])),
  .set 4 (.bin .add (.con (.int 1)) (.bi .max1 [.lc false false ⟨[2, 3], true⟩ .e [.var 0] none (.var 3) [2, 3]])),
  .set 5 (.lst true []),
  .loop false ⟨[2], false⟩ .rng1 [.var 1] [.expr (.bm .append (.var 5) [.bm .join (.con (.str [])) [.lc false false ⟨[3], false⟩ .rng1 [.var 4] none (.sub (.con (.str [46, 35])) (.bi .int [.cmp .inn (.tup [.var 2, .var 3]) (.var 0)])) [3]]])],
  .ret (.bi .tuple [.var 5])]
/-- _law_turns (k01) -/
def b__law_turns : List DS := [
  .set 1 (.lst true []),
  .set 2 (.lst true []),
  .loop false ⟨[3], false⟩ .rng1 [.con (.int 4)] [.set 4 (.call true 13 [.var 0, .var 3]),
  .ite (.cmp .nin (.var 4) (.var 1)) [.expr (.bm .append (.var 1) [.var 4]),
  .expr (.bm .append (.var 2) [.var 3])] []],
  .ret (.var 2)]
/-- _law_told (k01) -/
def b__law_told : List DS := [
  .set 2 (.con .non),
  .set 3 (.con .non),
  .tryE [.ite (.cmp .eq (.var 0) (.con (.int 0))) [.set 3 (.call true 0 [.var 1])] [.ite (.cmp .eq (.var 0) (.con (.int 1))) [.set 3 (.call true 3 [.var 1])] [.ite (.cmp .eq (.var 0) (.con (.int 2))) [.set 3 (.call true 2 [.var 1, .con (.int 1)])] [.set 3 (.ifx (.cmp .eq (.var 0) (.con (.int 3))) (.call true 5 [.var 1]) (.call true 4 [.var 1]))]]]] (some 4) [.set 2 (.var 4)],
  .ret (.ifx (.cmp .isN (.var 2) (.con .non)) (.var 3) (.call true 11 [.var 2]))]
/-- law (k01) -/
def b_law : List DS := [
  .set 1 (.lst true []),
  .set 2 (.call true 12 [.var 0, .var 1, .con (.int 4)]),
  .set 3 (.call true 13 [.var 2, .con (.int 0)]),
  .ite (.or (.cmp .notN (.call true 16 [.con (.int 0), .var 2]) (.con .non)) (.or (.cmp .ne (.call true 3 [.var 2]) (.var 3)) (.cmp .ne (.call true 14 [.var 3]) (.var 2)))) [.ret (.con (.bl false))] [],
  .ite (.cmp .ne (.call true 4 [.var 2]) (.tup [.bi .len [.var 2], .bi .len [.sub (.var 2) (.con (.int 0))], .bi .len [.var 3]])) [.ret (.con (.bl false))] [],
  .loop false ⟨[4], false⟩ .rng1 [.con (.int 6)] [.set 5 (.call true 14 [.call true 13 [.var 2, .var 4]]),
  .ite (.or (.cmp .ne (.call true 2 [.var 2, .var 4]) (.var 5)) (.cmp .ne (.call true 3 [.var 5]) (.call true 13 [.var 2, .var 4]))) [.ret (.con (.bl false))] [],
  .ite (.or (.not (.call true 6 [.var 2, .var 5])) (.not (.call true 6 [.var 5, .var 2]))) [.ret (.con (.bl false))] []],
  .ite (.cmp .ne (.call true 5 [.var 2]) (.call true 15 [.var 2])) [.ret (.con (.bl false))] [],
  .set 6 (.call true 12 [.var 0, .var 1, .con (.int 3)]),
  .set 7 (.lc false false ⟨[4], false⟩ .rng1 [.con (.int 4)] none (.call true 13 [.var 6, .var 4]) [4]),
  .ite (.or (.cmp .ne (.call true 6 [.var 2, .var 6]) (.cmp .inn (.var 3) (.var 7))) (.cmp .ne (.call true 6 [.var 6, .var 2]) (.call true 6 [.var 2, .var 6]))) [.ret (.con (.bl false))] [],
  .set 8 (.lst false [.tup [], .tup [.con (.str [])], .tup [.con (.str [35, 35, 35, 35, 35])], .bin .mul (.tup [.con (.str [35])]) (.con (.int 5)), .tup [.con (.str [35]), .con (.str [35, 35])], .tup [.con (.str [35, 120])], .tup [.con (.str [46, 35]), .con (.str [46, 35])], .tup [.con (.str [46, 46]), .con (.str [35, 35])], .tup [.con (.str [35, 35]), .con (.str [46, 46])]]),
  .set 8 (.call true 10 [.var 0, .var 1, .bin .add (.var 8) (.lst false [.tup [.con (.str [35, 46]), .con (.str [35, 46])]])]),
  .ret (.cmp .eq (.lc false false ⟨[9], false⟩ .rng1 [.con (.int 5)] none (.call true 16 [.var 9, .var 8]) [9]) (.bin .mul (.lst false [.tup [.con (.str [114, 101, 102, 117, 115, 101, 100]), .con (.str [115, 104, 97, 112, 101])]]) (.con (.int 5))))]
/-- look_name (k10) -/
def b_look_name : List DS := [
  .ite (.or (.not (.chain .le .le (.con (.int 1)) (.bi .len [.var 0]) (.con (.int 8)))) (.not (.bi .all [.lc false false ⟨[1], false⟩ .e [.var 0] none (.cmp .inn (.var 1) (.con (.str [97, 98, 99, 100, 101, 102, 103, 104, 105, 106, 107, 108, 109, 110, 111, 112, 113, 114, 115, 116, 117, 118, 119, 120, 121, 122]))) [1]]))) [.rais 2] []]
/-- Book.__init__ (k10) -/
def b_Book___init__ : List DS := [
  .setA 18 (.var 0) [114, 111, 119, 115] (.dct false [] [])]
/-- Book.add (k10) -/
def b_Book_add : List DS := [
  .expr (.call true 18 [.var 1]),
  .ite (.or (.cmp .inn (.var 1) (.att 18 (.var 0) [114, 111, 119, 115])) (.cmp .eq (.bi .len [.att 18 (.var 0) [114, 111, 119, 115]]) (.con (.int 30)))) [.rais 2] [],
  .expr (.call true 0 [.var 2]),
  .ite (.or (.not (.chain .le .le (.con (.int 1)) (.var 3) (.con (.int 99)))) (.not (.chain .le .le (.con (.int 0)) (.var 5) (.con (.int 999))))) [.rais 3] [],
  .loop false ⟨[7], false⟩ .e [.var 6] [.expr (.call true 18 [.var 7])],
  .setI (.att 18 (.var 0) [114, 111, 119, 115]) (.var 1) (.tup [.var 2, .var 3, .var 4, .var 5, .bi .tuple [.bi .setSorted [.var 6]]])]
/-- Book.need (k10) -/
def b_Book_need : List DS := [
  .ite (.cmp .nin (.var 1) (.att 18 (.var 0) [114, 111, 119, 115])) [.rais 2] []]
/-- Book.names (k10) -/
def b_Book_names : List DS := [
  .ret (.keysL true (.att 18 (.var 0) [114, 111, 119, 115]))]
/-- Book.shape (k10) -/
def b_Book_shape : List DS := [
  .expr (.meth true 18 21 [110, 101, 101, 100] (.var 0) [.var 1]),
  .ret (.sub (.sub (.att 18 (.var 0) [114, 111, 119, 115]) (.var 1)) (.con (.int 0)))]
/-- Book.most (k10) -/
def b_Book_most : List DS := [
  .expr (.meth true 18 21 [110, 101, 101, 100] (.var 0) [.var 1]),
  .ret (.sub (.sub (.att 18 (.var 0) [114, 111, 119, 115]) (.var 1)) (.con (.int 1)))]
/-- Book.turns (k10) -/
def b_Book_turns : List DS := [
  .expr (.meth true 18 21 [110, 101, 101, 100] (.var 0) [.var 1]),
  .ret (.ifx (.sub (.sub (.att 18 (.var 0) [114, 111, 119, 115]) (.var 1)) (.con (.int 2))) (.call true 5 [.sub (.sub (.att 18 (.var 0) [114, 111, 119, 115]) (.var 1)) (.con (.int 0))]) (.lst false [.con (.int 0)]))]
/-- Book.weight (k10) -/
def b_Book_weight : List DS := [
  .expr (.meth true 18 21 [110, 101, 101, 100] (.var 0) [.var 1]),
  .ret (.sub (.sub (.att 18 (.var 0) [114, 111, 119, 115]) (.var 1)) (.con (.int 3)))]
/-- Book.has_tag (k10) -/
def b_Book_has_tag : List DS := [
  .expr (.meth true 18 21 [110, 101, 101, 100] (.var 0) [.var 1]),
  .ret (.cmp .inn (.var 2) (.sub (.sub (.att 18 (.var 0) [114, 111, 119, 115]) (.var 1)) (.con (.int 4))))]
/-- _law_told (k10) -/
def b__law_told_2 : List DS := [
  .set 2 (.con .non),
  .set 3 (.con .non),
  .tryE [.set 3 (.meth true 18 20 [97, 100, 100] (.var 0) [.sub (.var 1) (.con (.int 0)), .sub (.var 1) (.con (.int 1)), .sub (.var 1) (.con (.int 2)), .sub (.var 1) (.con (.int 3)), .sub (.var 1) (.con (.int 4)), .sub (.var 1) (.con (.int 5))])] (some 4) [.set 2 (.var 4)],
  .ret (.ifx (.cmp .isN (.var 2) (.con .non)) (.var 3) (.call true 11 [.var 2]))]
/-- _law_asked (k10) -/
def b__law_asked : List DS := [
  .set 3 (.con .non),
  .set 4 (.con .non),
  .tryE [.ite (.cmp .eq (.var 1) (.con (.int 0))) [.set 4 (.meth true 18 23 [115, 104, 97, 112, 101] (.var 0) [.var 2])] [.ite (.cmp .eq (.var 1) (.con (.int 1))) [.set 4 (.meth true 18 24 [109, 111, 115, 116] (.var 0) [.var 2])] [.ite (.cmp .eq (.var 1) (.con (.int 2))) [.set 4 (.meth true 18 25 [116, 117, 114, 110, 115] (.var 0) [.var 2])] [.set 4 (.ifx (.cmp .eq (.var 1) (.con (.int 3))) (.meth true 18 26 [119, 101, 105, 103, 104, 116] (.var 0) [.var 2]) (.meth true 18 27 [104, 97, 115, 95, 116, 97, 103] (.var 0) [.var 2, .con (.str [104, 97, 110, 100])]))]]]] (some 5) [.set 3 (.var 5)],
  .ret (.ifx (.cmp .isN (.var 3) (.con .non)) (.var 4) (.call true 11 [.var 3]))]
/-- _law_due (k10) -/
def b__law_due : List DS := [
  .setT [2, 3, 4, 5, 6, 7] (.var 1),
  .ite (.or (.cmp .inn (.var 2) (.tup [.con (.str []), .con (.str [65, 120]), .con (.str [110, 105, 110, 101, 115, 105, 103, 110, 115])])) (.cmp .inn (.var 2) (.var 0))) [.ret (.tup [.con (.str [114, 101, 102, 117, 115, 101, 100]), .con (.str [107, 105, 110, 100])])] [],
  .ite (.cmp .inn (.var 3) (.tup [.tup [], .tup [.con (.str [46, 46])]])) [.ret (.tup [.con (.str [114, 101, 102, 117, 115, 101, 100]), .con (.str [115, 104, 97, 112, 101])])] [],
  .ite (.or (.cmp .inn (.var 4) (.tup [.con (.int 0), .con (.int 100)])) (.cmp .inn (.var 6) (.tup [.con (.int (-1)), .con (.int 1000)]))) [.ret (.tup [.con (.str [114, 101, 102, 117, 115, 101, 100]), .con (.str [110, 117, 109, 98, 101, 114])])] [],
  .ret (.ifx (.cmp .inn (.con (.str [65])) (.var 7)) (.tup [.con (.str [114, 101, 102, 117, 115, 101, 100]), .con (.str [107, 105, 110, 100])]) (.con .non))]
/-- law (k10) -/
def b_law_2 : List DS := [
  .set 1 (.lst true []),
  .set 2 (.make 18 19 []),
  .set 3 (.dct false [] []),
  .loop false ⟨[4], false⟩ .rng1 [.call true 9 [.var 0, .var 1, .con (.int 13)]] [.set 5 (.call true 10 [.var 0, .var 1, .lst false [.con (.str [97, 120]), .con (.str [98, 111, 119]), .con (.str [99, 111, 105, 110]), .con (.str [103, 101, 109]), .con (.str [97]), .con (.str [101, 105, 103, 104, 116, 97, 98, 99]), .con (.str []), .con (.str [65, 120]), .con (.str [110, 105, 110, 101, 115, 105, 103, 110, 115])]]),
  .set 6 (.call true 10 [.var 0, .var 1, .lst false [.call true 12 [.var 0, .var 1, .con (.int 4)], .call true 12 [.var 0, .var 1, .con (.int 4)], .tup [], .tup [.con (.str [46, 46])]]]),
  .set 7 (.call true 10 [.var 0, .var 1, .lst false [.con (.int 1), .con (.int 5), .con (.int 99), .con (.int 0), .con (.int 100)]]),
  .set 8 (.call true 10 [.var 0, .var 1, .lst false [.con (.int 0), .con (.int 7), .con (.int 999), .con (.int 7), .con (.int (-1)), .con (.int 1000)]]),
  .set 9 (.call true 10 [.var 0, .var 1, .lst false [.lst false [], .lst false [.con (.str [104, 97, 110, 100])], .lst false [.con (.str [104, 101, 97, 100]), .con (.str [104, 97, 110, 100]), .con (.str [104, 97, 110, 100])], .lst false [.con (.str [65])]]]),
  .set 10 (.tup [.var 5, .var 6, .var 7, .cmp .eq (.call true 9 [.var 0, .var 1, .con (.int 2)]) (.con (.int 0)), .var 8, .var 9]),
  .set 11 (.call true 30 [.var 3, .var 10]),
  .ite (.cmp .ne (.call true 28 [.var 2, .var 10]) (.var 11)) [.ret (.con (.bl false))] [],
  .ite (.cmp .isN (.var 11) (.con .non)) [.setI (.var 3) (.var 5) (.var 10)] [],
  .ite (.cmp .ne (.meth true 18 22 [110, 97, 109, 101, 115] (.var 2) []) (.keysL true (.var 3))) [.ret (.con (.bl false))] []],
  .loop true ⟨[5], false⟩ .keys [.var 3] [.setT [6, 7, 12, 8, 9] (.slc (.sub (.var 3) (.var 5)) (some (.con (.int 1))) none),
  .set 13 (.ifx (.var 12) (.call true 15 [.var 6]) (.lst false [.con (.int 0)])),
  .ite (.cmp .ne (.lc false false ⟨[14], false⟩ .rng1 [.con (.int 5)] none (.call true 29 [.var 2, .var 14, .var 5]) [14]) (.lst false [.var 6, .var 7, .var 13, .var 8, .cmp .inn (.con (.str [104, 97, 110, 100])) (.var 9)])) [.ret (.con (.bl false))] []],
  .ite (.cmp .ne (.lc false false ⟨[14], false⟩ .rng1 [.con (.int 5)] none (.call true 29 [.var 2, .var 14, .con (.str [110, 111, 110, 101])]) [14]) (.bin .mul (.lst false [.tup [.con (.str [114, 101, 102, 117, 115, 101, 100]), .con (.str [107, 105, 110, 100])]]) (.con (.int 5)))) [.ret (.con (.bl false))] [],
  .set 15 (.make 18 19 []),
  .loop false ⟨[4], false⟩ .rng1 [.con (.int 30)] [.expr (.meth true 18 20 [97, 100, 100] (.var 15) [.bin .add (.bin .add (.con (.str [107])) (.sub (.con (.str [97, 98, 99, 100, 101, 102, 103, 104, 105, 106])) (.bin .fdiv (.var 4) (.con (.int 10))))) (.sub (.con (.str [97, 98, 99, 100, 101, 102, 103, 104, 105, 106])) (.bin .sub (.var 4) (.bin .mul (.bin .fdiv (.var 4) (.con (.int 10))) (.con (.int 10))))), .tup [.con (.str [35])], .con (.int 1), .con (.bl false), .con (.int 0), .lst false []])],
  .ret (.and (.cmp .eq (.call true 28 [.var 15, .tup [.con (.str [109, 111, 114, 101]), .tup [.con (.str [35])], .con (.int 1), .con (.bl false), .con (.int 0), .lst false []]]) (.tup [.con (.str [114, 101, 102, 117, 115, 101, 100]), .con (.str [107, 105, 110, 100])])) (.cmp .eq (.bi .len [.meth true 18 22 [110, 97, 109, 101, 115] (.var 15) []]) (.con (.int 30))))]
/-- Pile.__init__ (k20) -/
def b_Pile___init__ : List DS := [
  .setA 16 (.var 0) [107, 105, 110, 100] (.var 1),
  .setA 16 (.var 0) [109, 97, 110, 121] (.var 2),
  .setA 16 (.var 0) [116, 117, 114, 110] (.var 3),
  .setA 16 (.var 0) [114, 111, 119] (.var 4),
  .setA 16 (.var 0) [99, 111, 108, 117, 109, 110] (.var 5)]
/-- Pile.told (k20) -/
def b_Pile_told : List DS := [
  .ret (.tup [.att 16 (.var 0) [107, 105, 110, 100], .att 16 (.var 0) [109, 97, 110, 121], .att 16 (.var 0) [116, 117, 114, 110], .att 16 (.var 0) [114, 111, 119], .att 16 (.var 0) [99, 111, 108, 117, 109, 110]])]
/-- Bag.__init__ (k20) -/
def b_Bag___init__ : List DS := [
  .ite (.or (.not (.chain .le .le (.con (.int 1)) (.var 2) (.con (.int 10)))) (.not (.chain .le .le (.con (.int 1)) (.var 3) (.con (.int 10))))) [.rais 3] [],
  .setA 17 (.var 0) [98, 111, 111, 107] (.var 1),
  .setA 17 (.var 0) [114, 111, 119, 115] (.var 2),
  .setA 17 (.var 0) [99, 111, 108, 117, 109, 110, 115] (.var 3),
  .setA 17 (.var 0) [112, 105, 108, 101, 115] (.dct false [] []),
  .setA 17 (.var 0) [108, 97, 115, 116] (.con (.int 0)),
  .setA 17 (.var 0) [103, 114, 105, 100] (.dct true [] [])]
/-- Bag.cells_of (k20) -/
def b_Bag_cells_of : List DS := [
  .set 5 (.call true 3 [.call true 2 [.meth true 18 23 [115, 104, 97, 112, 101] (.att 17 (.var 0) [98, 111, 111, 107]) [.var 1], .var 2]]),
  .ret (.lc false false ⟨[6, 7], true⟩ .e [.var 5] none (.tup [.bin .add (.var 3) (.var 6), .bin .add (.var 4) (.var 7)]) [6, 7])]
/-- Bag.is_free (k20) -/
def b_Bag_is_free : List DS := [
  .loop false ⟨[3, 4], true⟩ .e [.var 1] [.ite (.or (.not (.chain .le .lt (.con (.int 0)) (.var 3) (.att 17 (.var 0) [114, 111, 119, 115]))) (.not (.chain .le .lt (.con (.int 0)) (.var 4) (.att 17 (.var 0) [99, 111, 108, 117, 109, 110, 115])))) [.ret (.con (.bl false))] [],
  .ite (.cmp .ne (.bm .get (.att 17 (.var 0) [103, 114, 105, 100]) [.tup [.var 3, .var 4], .var 2]) (.var 2)) [.ret (.con (.bl false))] []],
  .ret (.con (.bl true))]
/-- Bag.fits (k20) -/
def b_Bag_fits : List DS := [
  .ite (.cmp .nin (.var 2) (.meth true 18 25 [116, 117, 114, 110, 115] (.att 17 (.var 0) [98, 111, 111, 107]) [.var 1])) [.ret (.con (.bl false))] [],
  .ret (.meth true 17 36 [105, 115, 95, 102, 114, 101, 101] (.var 0) [.meth true 17 35 [99, 101, 108, 108, 115, 95, 111, 102] (.var 0) [.var 1, .var 2, .var 3, .var 4], .con .non])]
/-- Bag.look_many (k20) -/
def b_Bag_look_many : List DS := [
  .expr (.meth true 18 21 [110, 101, 101, 100] (.att 17 (.var 0) [98, 111, 111, 107]) [.var 1]),
  .ite (.not (.chain .le .le (.con (.int 1)) (.var 2) (.meth true 18 24 [109, 111, 115, 116] (.att 17 (.var 0) [98, 111, 111, 107]) [.var 1]))) [.rais 3] []]
/-- Bag.lay (k20) -/
def b_Bag_lay : List DS := [
  .setI (.att 17 (.var 0) [112, 105, 108, 101, 115]) (.var 1) (.var 2),
  .loop false ⟨[3], false⟩ .e [.meth true 17 35 [99, 101, 108, 108, 115, 95, 111, 102] (.var 0) [.att 16 (.var 2) [107, 105, 110, 100], .att 16 (.var 2) [116, 117, 114, 110], .att 16 (.var 2) [114, 111, 119], .att 16 (.var 2) [99, 111, 108, 117, 109, 110]]] [.setI (.att 17 (.var 0) [103, 114, 105, 100]) (.var 3) (.var 1)]]
/-- Bag.lift (k20) -/
def b_Bag_lift : List DS := [
  .set 2 (.bm .pop (.att 17 (.var 0) [112, 105, 108, 101, 115]) [.var 1]),
  .loop false ⟨[3], false⟩ .e [.meth true 17 35 [99, 101, 108, 108, 115, 95, 111, 102] (.var 0) [.att 16 (.var 2) [107, 105, 110, 100], .att 16 (.var 2) [116, 117, 114, 110], .att 16 (.var 2) [114, 111, 119], .att 16 (.var 2) [99, 111, 108, 117, 109, 110]]] [.expr (.bm .pop (.att 17 (.var 0) [103, 114, 105, 100]) [.var 3])],
  .ret (.var 2)]
/-- Bag.put (k20) -/
def b_Bag_put : List DS := [
  .expr (.meth true 17 38 [108, 111, 111, 107, 95, 109, 97, 110, 121] (.var 0) [.var 1, .var 2]),
  .ite (.not (.meth true 17 37 [102, 105, 116, 115] (.var 0) [.var 1, .var 3, .var 4, .var 5])) [.rais 4] [],
  .setA 17 (.var 0) [108, 97, 115, 116] (.bin .add (.att 17 (.var 0) [108, 97, 115, 116]) (.con (.int 1))),
  .expr (.meth true 17 39 [108, 97, 121] (.var 0) [.att 17 (.var 0) [108, 97, 115, 116], .make 16 32 [.var 1, .var 2, .var 3, .var 4, .var 5]]),
  .ret (.att 17 (.var 0) [108, 97, 115, 116])]
/-- Bag.need (k20) -/
def b_Bag_need : List DS := [
  .ite (.cmp .nin (.var 1) (.att 17 (.var 0) [112, 105, 108, 101, 115])) [.rais 5] []]
/-- Bag.pile (k20) -/
def b_Bag_pile : List DS := [
  .expr (.meth true 17 42 [110, 101, 101, 100] (.var 0) [.var 1]),
  .ret (.meth true 16 33 [116, 111, 108, 100] (.sub (.att 17 (.var 0) [112, 105, 108, 101, 115]) (.var 1)) [])]
/-- Bag.place_of (k20) -/
def b_Bag_place_of : List DS := [
  .set 2 (.sub (.att 17 (.var 0) [112, 105, 108, 101, 115]) (.var 1)),
  .ret (.sub (.meth true 17 35 [99, 101, 108, 108, 115, 95, 111, 102] (.var 0) [.att 16 (.var 2) [107, 105, 110, 100], .att 16 (.var 2) [116, 117, 114, 110], .att 16 (.var 2) [114, 111, 119], .att 16 (.var 2) [99, 111, 108, 117, 109, 110]]) (.con (.int 0)))]
/-- Bag.numbers (k20) -/
def b_Bag_numbers : List DS := [
  .ret (.keysBy 17 44 (.att 17 (.var 0) [112, 105, 108, 101, 115]) (.var 0))]
/-- Bag.at (k20) -/
def b_Bag_at : List DS := [
  .ite (.or (.not (.chain .le .lt (.con (.int 0)) (.var 1) (.att 17 (.var 0) [114, 111, 119, 115]))) (.not (.chain .le .lt (.con (.int 0)) (.var 2) (.att 17 (.var 0) [99, 111, 108, 117, 109, 110, 115])))) [.rais 4] [],
  .ret (.bm .get (.att 17 (.var 0) [103, 114, 105, 100]) [.tup [.var 1, .var 2], .con .non])]
/-- Bag.take (k20) -/
def b_Bag_take : List DS := [
  .expr (.meth true 17 42 [110, 101, 101, 100] (.var 0) [.var 1]),
  .ite (.not (.chain .le .le (.con (.int 1)) (.var 2) (.att 16 (.sub (.att 17 (.var 0) [112, 105, 108, 101, 115]) (.var 1)) [109, 97, 110, 121]))) [.rais 3] [],
  .setA 16 (.sub (.att 17 (.var 0) [112, 105, 108, 101, 115]) (.var 1)) [109, 97, 110, 121] (.bin .sub (.att 16 (.sub (.att 17 (.var 0) [112, 105, 108, 101, 115]) (.var 1)) [109, 97, 110, 121]) (.var 2)),
  .ite (.cmp .eq (.att 16 (.sub (.att 17 (.var 0) [112, 105, 108, 101, 115]) (.var 1)) [109, 97, 110, 121]) (.con (.int 0))) [.expr (.meth true 17 40 [108, 105, 102, 116] (.var 0) [.var 1])] []]
/-- Bag.pile_up (k20) -/
def b_Bag_pile_up : List DS := [
  .expr (.meth true 17 42 [110, 101, 101, 100] (.var 0) [.var 1]),
  .ite (.cmp .ne (.att 16 (.sub (.att 17 (.var 0) [112, 105, 108, 101, 115]) (.var 1)) [107, 105, 110, 100]) (.var 2)) [.rais 2] [],
  .ite (.cmp .lt (.var 3) (.con (.int 0))) [.rais 3] [],
  .set 4 (.bi .min2 [.var 3, .bin .sub (.meth true 18 24 [109, 111, 115, 116] (.att 17 (.var 0) [98, 111, 111, 107]) [.var 2]) (.att 16 (.sub (.att 17 (.var 0) [112, 105, 108, 101, 115]) (.var 1)) [109, 97, 110, 121])]),
  .setA 16 (.sub (.att 17 (.var 0) [112, 105, 108, 101, 115]) (.var 1)) [109, 97, 110, 121] (.bin .add (.att 16 (.sub (.att 17 (.var 0) [112, 105, 108, 101, 115]) (.var 1)) [109, 97, 110, 121]) (.var 4)),
  .ret (.bin .sub (.var 3) (.var 4))]
/-- Bag.move (k20) -/
def b_Bag_move : List DS := [
  .expr (.meth true 17 42 [110, 101, 101, 100] (.var 0) [.var 1]),
  .set 5 (.att 16 (.sub (.att 17 (.var 0) [112, 105, 108, 101, 115]) (.var 1)) [107, 105, 110, 100]),
  .ite (.or (.cmp .nin (.var 2) (.meth true 18 25 [116, 117, 114, 110, 115] (.att 17 (.var 0) [98, 111, 111, 107]) [.var 5])) (.not (.meth true 17 36 [105, 115, 95, 102, 114, 101, 101] (.var 0) [.meth true 17 35 [99, 101, 108, 108, 115, 95, 111, 102] (.var 0) [.var 5, .var 2, .var 3, .var 4], .var 1]))) [.rais 4] [],
  .set 6 (.meth true 17 40 [108, 105, 102, 116] (.var 0) [.var 1]),
  .expr (.meth true 17 39 [108, 97, 121] (.var 0) [.var 1, .make 16 32 [.var 5, .att 16 (.var 6) [109, 97, 110, 121], .var 2, .var 3, .var 4]])]
/-- Bag.split (k20) -/
def b_Bag_split : List DS := [
  .expr (.meth true 17 42 [110, 101, 101, 100] (.var 0) [.var 1]),
  .set 6 (.sub (.att 17 (.var 0) [112, 105, 108, 101, 115]) (.var 1)),
  .ite (.not (.chain .le .lt (.con (.int 1)) (.var 2) (.att 16 (.var 6) [109, 97, 110, 121]))) [.rais 3] [],
  .set 7 (.meth false 17 41 [112, 117, 116] (.var 0) [.att 16 (.var 6) [107, 105, 110, 100], .var 2, .var 3, .var 4, .var 5]),
  .expr (.meth true 17 47 [116, 97, 107, 101] (.var 0) [.var 1, .var 2]),
  .ret (.var 7)]
/-- Bag.join (k20) -/
def b_Bag_join : List DS := [
  .expr (.meth true 17 42 [110, 101, 101, 100] (.var 0) [.var 1]),
  .expr (.meth true 17 42 [110, 101, 101, 100] (.var 0) [.var 2]),
  .ite (.cmp .eq (.var 1) (.var 2)) [.rais 5] [],
  .set 3 (.meth true 17 48 [112, 105, 108, 101, 95, 117, 112] (.var 0) [.var 2, .att 16 (.sub (.att 17 (.var 0) [112, 105, 108, 101, 115]) (.var 1)) [107, 105, 110, 100], .att 16 (.sub (.att 17 (.var 0) [112, 105, 108, 101, 115]) (.var 1)) [109, 97, 110, 121]]),
  .ite (.cmp .lt (.var 3) (.att 16 (.sub (.att 17 (.var 0) [112, 105, 108, 101, 115]) (.var 1)) [109, 97, 110, 121])) [.expr (.meth true 17 47 [116, 97, 107, 101] (.var 0) [.var 1, .bin .sub (.att 16 (.sub (.att 17 (.var 0) [112, 105, 108, 101, 115]) (.var 1)) [109, 97, 110, 121]) (.var 3)])] [],
  .ret (.var 3)]
/-- Bag.count (k20) -/
def b_Bag_count : List DS := [
  .expr (.meth true 18 21 [110, 101, 101, 100] (.att 17 (.var 0) [98, 111, 111, 107]) [.var 1]),
  .ret (.bi .sum [.lc false true ⟨[2], false⟩ .vals [.att 17 (.var 0) [112, 105, 108, 101, 115]] (some (.cmp .eq (.att 16 (.var 2) [107, 105, 110, 100]) (.var 1))) (.att 16 (.var 2) [109, 97, 110, 121]) [2]])]
/-- Bag.counts (k20) -/
def b_Bag_counts : List DS := [
  .ret (.lc false false ⟨[1], false⟩ .e [.meth true 18 22 [110, 97, 109, 101, 115] (.att 17 (.var 0) [98, 111, 111, 107]) []] (some (.cmp .gt (.meth true 17 52 [99, 111, 117, 110, 116] (.var 0) [.var 1]) (.con (.int 0)))) (.tup [.var 1, .meth true 17 52 [99, 111, 117, 110, 116] (.var 0) [.var 1]]) [1])]
/-- Bag.weight (k20) -/
def b_Bag_weight : List DS := [
  .ret (.bi .sum [.lc false true ⟨[1], false⟩ .vals [.att 17 (.var 0) [112, 105, 108, 101, 115]] none (.bin .mul (.meth true 18 26 [119, 101, 105, 103, 104, 116] (.att 17 (.var 0) [98, 111, 111, 107]) [.att 16 (.var 1) [107, 105, 110, 100]]) (.att 16 (.var 1) [109, 97, 110, 121])) [1]])]
/-- Bag.free (k20) -/
def b_Bag_free : List DS := [
  .ret (.bin .sub (.bin .mul (.att 17 (.var 0) [114, 111, 119, 115]) (.att 17 (.var 0) [99, 111, 108, 117, 109, 110, 115])) (.bi .len [.att 17 (.var 0) [103, 114, 105, 100]]))]
/-- Bag.shown (k20) -/
def b_Bag_shown : List DS := [
  .ret (.lc true false ⟨[1], false⟩ .rng1 [.att 17 (.var 0) [114, 111, 119, 115]] none (.lc true false ⟨[2], false⟩ .rng1 [.att 17 (.var 0) [99, 111, 108, 117, 109, 110, 115]] none (.bm .get (.att 17 (.var 0) [103, 114, 105, 100]) [.tup [.var 1, .var 2], .con (.int 0)]) [2]) [1])]
/-- Bag.picture (k20) -/
def b_Bag_picture : List DS := [
  .ret (.lc true false ⟨[1], false⟩ .e [.meth true 17 45 [110, 117, 109, 98, 101, 114, 115] (.var 0) []] none (.meth true 16 33 [116, 111, 108, 100] (.sub (.att 17 (.var 0) [112, 105, 108, 101, 115]) (.var 1)) []) [1])]
/-- Bag.become (k20) -/
def b_Bag_become : List DS := [
  .setA 17 (.var 0) [112, 105, 108, 101, 115] (.att 17 (.var 1) [112, 105, 108, 101, 115]),
  .setA 17 (.var 0) [103, 114, 105, 100] (.att 17 (.var 1) [103, 114, 105, 100]),
  .setA 17 (.var 0) [108, 97, 115, 116] (.att 17 (.var 1) [108, 97, 115, 116])]
/-- _law_kinds (k20) -/
def b__law_kinds : List DS := [
  .set 2 (.dct false [] []),
  .loop false ⟨[3], false⟩ .e [.lst false [.con (.str [97, 120]), .con (.str [98, 111, 119]), .con (.str [99, 111, 105, 110]), .con (.str [103, 101, 109])]] [.set 4 (.ifx (.cmp .eq (.var 3) (.con (.str [99, 111, 105, 110]))) (.tup [.con (.str [35])]) (.call true 12 [.var 0, .var 1, .con (.int 3)])),
  .set 5 (.ifx (.cmp .eq (.var 3) (.con (.str [99, 111, 105, 110]))) (.con (.int 9)) (.bin .add (.con (.int 1)) (.call true 9 [.var 0, .var 1, .con (.int 4)]))),
  .set 6 (.lc false false ⟨[7], false⟩ .e [.lst false [.con (.str [104, 97, 110, 100]), .con (.str [104, 101, 97, 100])]] (some (.cmp .eq (.call true 9 [.var 0, .var 1, .con (.int 2)]) (.con (.int 0)))) (.var 7) [7]),
  .setI (.var 2) (.var 3) (.tup [.var 4, .var 5, .cmp .eq (.call true 9 [.var 0, .var 1, .con (.int 2)]) (.con (.int 0)), .call true 9 [.var 0, .var 1, .con (.int 20)], .var 6])],
  .ret (.var 2)]
/-- _law_book (k20) -/
def b__law_book : List DS := [
  .set 1 (.make 18 19 []),
  .loop false ⟨[2], false⟩ .keysV [.var 0] [.setT [3, 4, 5, 6, 7] (.sub (.var 0) (.var 2)),
  .expr (.meth true 18 20 [97, 100, 100] (.var 1) [.var 2, .var 3, .var 4, .var 5, .var 6, .var 7])],
  .ret (.var 1)]
/-- _law_bag (k20) -/
def b__law_bag : List DS := [
  .ret (.dct false [[107, 105, 110, 100, 115], [114, 111, 119, 115], [99, 111, 108, 117, 109, 110, 115], [112, 105, 108, 101, 115], [108, 97, 115, 116]] [.var 0, .var 1, .var 2, .dct false [] [], .con (.int 0)])]
/-- _law_taken (k20) -/
def b__law_taken : List DS := [
  .ret (.lc false false ⟨[5, 6], true⟩ .e [.call true 13 [.sub (.sub (.sub (.var 0) (.con (.str [107, 105, 110, 100, 115]))) (.var 1)) (.con (.int 0)), .var 2]] none (.tup [.bin .add (.var 3) (.var 5), .bin .add (.var 4) (.var 6)]) [5, 6])]
/-- _law_turns_of (k20) -/
def b__law_turns_of : List DS := [
  .ret (.ifx (.sub (.sub (.sub (.var 0) (.con (.str [107, 105, 110, 100, 115]))) (.var 1)) (.con (.int 2))) (.call true 15 [.sub (.sub (.sub (.var 0) (.con (.str [107, 105, 110, 100, 115]))) (.var 1)) (.con (.int 0))]) (.lst false [.con (.int 0)]))]
/-- _law_under (k20) -/
def b__law_under : List DS := [
  .set 2 (.lst true []),
  .loop false ⟨[3, 4], true⟩ .e [.var 1] [.ite (.or (.not (.chain .le .lt (.con (.int 0)) (.var 3) (.sub (.var 0) (.con (.str [114, 111, 119, 115]))))) (.not (.chain .le .lt (.con (.int 0)) (.var 4) (.sub (.var 0) (.con (.str [99, 111, 108, 117, 109, 110, 115])))))) [.expr (.bm .append (.var 2) [.con (.int 0)])] []],
  .loop false ⟨[5], false⟩ .e [.keysL true (.sub (.var 0) (.con (.str [112, 105, 108, 101, 115])))] [.setT [6, 7, 8, 3, 4] (.sub (.sub (.var 0) (.con (.str [112, 105, 108, 101, 115]))) (.var 5)),
  .ite (.cmp .ne (.lc false false ⟨[9], false⟩ .e [.call true 62 [.var 0, .var 6, .var 8, .var 3, .var 4]] (some (.cmp .inn (.var 9) (.var 1))) (.var 9) [9]) (.lst false [])) [.expr (.bm .append (.var 2) [.var 5])] []],
  .ret (.var 2)]
/-- _law_fits (k20) -/
def b__law_fits : List DS := [
  .ite (.cmp .nin (.var 2) (.call true 63 [.var 0, .var 1])) [.ret (.con (.bl false))] [],
  .ret (.cmp .eq (.lc false false ⟨[6], false⟩ .e [.call true 64 [.var 0, .call true 62 [.var 0, .var 1, .var 2, .var 3, .var 4]]] (some (.cmp .ne (.var 6) (.var 5))) (.var 6) [6]) (.lst false []))]
/-- _law_put (k20) -/
def b__law_put : List DS := [
  .setI (.var 0) (.con (.str [108, 97, 115, 116])) (.bin .add (.sub (.var 0) (.con (.str [108, 97, 115, 116]))) (.con (.int 1))),
  .setI (.sub (.var 0) (.con (.str [112, 105, 108, 101, 115]))) (.sub (.var 0) (.con (.str [108, 97, 115, 116]))) (.tup [.var 1, .var 2, .var 3, .var 4, .var 5]),
  .ret (.sub (.var 0) (.con (.str [108, 97, 115, 116])))]
/-- _law_change (k20) -/
def b__law_change : List DS := [
  .setT [3, 4, 5, 6, 7] (.sub (.sub (.var 0) (.con (.str [112, 105, 108, 101, 115]))) (.var 1)),
  .setI (.sub (.var 0) (.con (.str [112, 105, 108, 101, 115]))) (.var 1) (.tup [.var 3, .bin .add (.var 4) (.var 2), .var 5, .var 6, .var 7]),
  .ite (.cmp .eq (.bin .add (.var 4) (.var 2)) (.con (.int 0))) [.expr (.bm .pop (.sub (.var 0) (.con (.str [112, 105, 108, 101, 115]))) [.var 1])] []]
/-- _law_first (k20) -/
def b__law_first : List DS := [
  .setT [2, 3, 4, 5, 6] (.sub (.sub (.var 0) (.con (.str [112, 105, 108, 101, 115]))) (.var 1)),
  .ret (.bi .min1 [.call true 62 [.var 0, .var 2, .var 4, .var 5, .var 6]])]
/-- _law_numbers (k20) -/
def b__law_numbers : List DS := [
  .ret (.lc false false ⟨[1, 2], true⟩ .e [.bi .sorted [.lc false true ⟨[3], false⟩ .keys [.sub (.var 0) (.con (.str [112, 105, 108, 101, 115]))] none (.tup [.call true 68 [.var 0, .var 3], .var 3]) [3]]] none (.var 2) [1, 2])]
/-- _law_picture (k20) -/
def b__law_picture : List DS := [
  .ret (.lc false false ⟨[1], false⟩ .e [.call true 69 [.var 0]] none (.sub (.sub (.var 0) (.con (.str [112, 105, 108, 101, 115]))) (.var 1)) [1])]
/-- _law_count (k20) -/
def b__law_count : List DS := [
  .ret (.bi .sum [.lc false true ⟨[2], false⟩ .vals [.sub (.var 0) (.con (.str [112, 105, 108, 101, 115]))] (some (.cmp .eq (.sub (.var 2) (.con (.int 0))) (.var 1))) (.sub (.var 2) (.con (.int 1))) [2]])]
/-- _law_same (k20) -/
def b__law_same : List DS := [
  .set 2 (.call true 69 [.var 1]),
  .ite (.or (.cmp .ne (.meth true 17 45 [110, 117, 109, 98, 101, 114, 115] (.var 0) []) (.var 2)) (.cmp .ne (.meth true 17 57 [112, 105, 99, 116, 117, 114, 101] (.var 0) []) (.call true 70 [.var 1]))) [.ret (.con (.bl false))] [],
  .set 3 (.lc true false ⟨[4], false⟩ .rng1 [.sub (.var 1) (.con (.str [114, 111, 119, 115]))] none (.rep (.lst false [.con (.int 0)]) (.sub (.var 1) (.con (.str [99, 111, 108, 117, 109, 110, 115])))) [4]),
  .set 5 (.con (.int 0)),
  .loop false ⟨[6], false⟩ .e [.var 2] [.setT [7, 8, 9, 4, 10] (.sub (.sub (.var 1) (.con (.str [112, 105, 108, 101, 115]))) (.var 6)),
  .loop false ⟨[11, 12], true⟩ .e [.call true 62 [.var 1, .var 7, .var 9, .var 4, .var 10]] [.setI (.sub (.var 3) (.var 11)) (.var 12) (.var 6),
  .set 5 (.bin .add (.var 5) (.con (.int 1)))]],
  .ite (.or (.cmp .ne (.meth true 17 56 [115, 104, 111, 119, 110] (.var 0) []) (.var 3)) (.cmp .ne (.meth true 17 55 [102, 114, 101, 101] (.var 0) []) (.bin .sub (.bin .mul (.sub (.var 1) (.con (.str [114, 111, 119, 115]))) (.sub (.var 1) (.con (.str [99, 111, 108, 117, 109, 110, 115])))) (.var 5)))) [.ret (.con (.bl false))] [],
  .set 13 (.lc false false ⟨[7], false⟩ .e [.keysL true (.sub (.var 1) (.con (.str [107, 105, 110, 100, 115])))] none (.tup [.var 7, .call true 71 [.var 1, .var 7]]) [7]),
  .ite (.cmp .ne (.meth true 17 53 [99, 111, 117, 110, 116, 115] (.var 0) []) (.lc false false ⟨[14], false⟩ .e [.var 13] (some (.cmp .gt (.sub (.var 14) (.con (.int 1))) (.con (.int 0)))) (.var 14) [14])) [.ret (.con (.bl false))] [],
  .ret (.cmp .eq (.meth true 17 54 [119, 101, 105, 103, 104, 116] (.var 0) []) (.bi .sum [.lc false false ⟨[7, 8], true⟩ .e [.var 13] none (.bin .mul (.var 8) (.sub (.sub (.sub (.var 1) (.con (.str [107, 105, 110, 100, 115]))) (.var 7)) (.con (.int 3)))) [7, 8]]))]
/-- _law_told (k20) -/
def b__law_told_3 : List DS := [
  .set 3 (.con .non),
  .set 4 (.con .non),
  .tryE [.ite (.cmp .eq (.var 1) (.con (.str [112, 117, 116]))) [.set 4 (.meth false 17 41 [112, 117, 116] (.var 0) [.sub (.var 2) (.con (.int 0)), .sub (.var 2) (.con (.int 1)), .sub (.var 2) (.con (.int 2)), .sub (.var 2) (.con (.int 3)), .sub (.var 2) (.con (.int 4))])] [.ite (.cmp .eq (.var 1) (.con (.str [116, 97, 107, 101]))) [.set 4 (.meth true 17 47 [116, 97, 107, 101] (.var 0) [.sub (.var 2) (.con (.int 0)), .sub (.var 2) (.con (.int 1))])] [.ite (.cmp .eq (.var 1) (.con (.str [112, 105, 108, 101]))) [.set 4 (.meth true 17 48 [112, 105, 108, 101, 95, 117, 112] (.var 0) [.sub (.var 2) (.con (.int 0)), .sub (.var 2) (.con (.int 1)), .sub (.var 2) (.con (.int 2))])] [.ite (.cmp .eq (.var 1) (.con (.str [109, 111, 118, 101]))) [.set 4 (.meth false 17 49 [109, 111, 118, 101] (.var 0) [.sub (.var 2) (.con (.int 0)), .sub (.var 2) (.con (.int 1)), .sub (.var 2) (.con (.int 2)), .sub (.var 2) (.con (.int 3))])] [.ite (.cmp .eq (.var 1) (.con (.str [115, 112, 108, 105, 116]))) [.set 4 (.meth false 17 50 [115, 112, 108, 105, 116] (.var 0) [.sub (.var 2) (.con (.int 0)), .sub (.var 2) (.con (.int 1)), .sub (.var 2) (.con (.int 2)), .sub (.var 2) (.con (.int 3)), .sub (.var 2) (.con (.int 4))])] [.set 4 (.meth true 17 51 [106, 111, 105, 110] (.var 0) [.sub (.var 2) (.con (.int 0)), .sub (.var 2) (.con (.int 1))])]]]]]] (some 5) [.set 3 (.var 5)],
  .ret (.ifx (.cmp .isN (.var 3) (.con .non)) (.var 4) (.call true 11 [.var 3]))]
/-- _law_do_put (k20) -/
def b__law_do_put : List DS := [
  .setT [2, 3, 4, 5, 6] (.var 1),
  .ite (.cmp .nin (.var 2) (.sub (.var 0) (.con (.str [107, 105, 110, 100, 115])))) [.ret (.tup [.con (.str [114, 101, 102, 117, 115, 101, 100]), .con (.str [107, 105, 110, 100])])] [],
  .ite (.not (.chain .le .le (.con (.int 1)) (.var 3) (.sub (.sub (.sub (.var 0) (.con (.str [107, 105, 110, 100, 115]))) (.var 2)) (.con (.int 1))))) [.ret (.tup [.con (.str [114, 101, 102, 117, 115, 101, 100]), .con (.str [110, 117, 109, 98, 101, 114])])] [],
  .ite (.not (.call true 65 [.var 0, .var 2, .var 4, .var 5, .var 6, .con .non])) [.ret (.tup [.con (.str [114, 101, 102, 117, 115, 101, 100]), .con (.str [112, 108, 97, 99, 101])])] [],
  .ret (.call true 66 [.var 0, .var 2, .var 3, .var 4, .var 5, .var 6])]
/-- _law_do_pile (k20) -/
def b__law_do_pile : List DS := [
  .setT [2, 3, 4] (.var 1),
  .ite (.cmp .ne (.sub (.sub (.sub (.var 0) (.con (.str [112, 105, 108, 101, 115]))) (.var 2)) (.con (.int 0))) (.var 3)) [.ret (.tup [.con (.str [114, 101, 102, 117, 115, 101, 100]), .con (.str [107, 105, 110, 100])])] [],
  .ite (.cmp .lt (.var 4) (.con (.int 0))) [.ret (.tup [.con (.str [114, 101, 102, 117, 115, 101, 100]), .con (.str [110, 117, 109, 98, 101, 114])])] [],
  .set 5 (.bi .min2 [.var 4, .bin .sub (.sub (.sub (.sub (.var 0) (.con (.str [107, 105, 110, 100, 115]))) (.var 3)) (.con (.int 1))) (.sub (.sub (.sub (.var 0) (.con (.str [112, 105, 108, 101, 115]))) (.var 2)) (.con (.int 1)))]),
  .expr (.call true 67 [.var 0, .var 2, .var 5]),
  .ret (.bin .sub (.var 4) (.var 5))]
/-- _law_do_place (k20) -/
def b__law_do_place : List DS := [
  .setT [3, 4, 5, 6, 7] (.var 2),
  .setT [8, 9] (.slc (.sub (.sub (.var 0) (.con (.str [112, 105, 108, 101, 115]))) (.var 3)) none (some (.con (.int 2)))),
  .ite (.cmp .eq (.var 1) (.con (.str [109, 111, 118, 101]))) [.ite (.not (.call true 65 [.var 0, .var 8, .var 5, .var 6, .var 7, .var 3])) [.ret (.tup [.con (.str [114, 101, 102, 117, 115, 101, 100]), .con (.str [112, 108, 97, 99, 101])])] [],
  .setI (.sub (.var 0) (.con (.str [112, 105, 108, 101, 115]))) (.var 3) (.tup [.var 8, .var 9, .var 5, .var 6, .var 7]),
  .ret (.con .non)] [],
  .ite (.not (.chain .le .lt (.con (.int 1)) (.var 4) (.var 9))) [.ret (.tup [.con (.str [114, 101, 102, 117, 115, 101, 100]), .con (.str [110, 117, 109, 98, 101, 114])])] [],
  .ite (.not (.call true 65 [.var 0, .var 8, .var 5, .var 6, .var 7, .con .non])) [.ret (.tup [.con (.str [114, 101, 102, 117, 115, 101, 100]), .con (.str [112, 108, 97, 99, 101])])] [],
  .expr (.call true 67 [.var 0, .var 3, .bin .sub (.con (.int 0)) (.var 4)]),
  .ret (.call true 66 [.var 0, .var 8, .var 4, .var 5, .var 6, .var 7])]
/-- _law_do (k20) -/
def b__law_do : List DS := [
  .ite (.cmp .eq (.var 1) (.con (.str [112, 117, 116]))) [.ret (.call true 74 [.var 0, .var 2])] [],
  .set 3 (.ifx (.cmp .eq (.var 1) (.con (.str [106, 111, 105, 110]))) (.lst false [.sub (.var 2) (.con (.int 0)), .sub (.var 2) (.con (.int 1))]) (.lst false [.sub (.var 2) (.con (.int 0))])),
  .ite (.cmp .ne (.lc false false ⟨[4], false⟩ .e [.var 3] (some (.cmp .nin (.var 4) (.sub (.var 0) (.con (.str [112, 105, 108, 101, 115]))))) (.var 4) [4]) (.lst false [])) [.ret (.tup [.con (.str [114, 101, 102, 117, 115, 101, 100]), .con (.str [112, 105, 108, 101])])] [],
  .ite (.cmp .eq (.var 1) (.con (.str [116, 97, 107, 101]))) [.ite (.not (.chain .le .le (.con (.int 1)) (.sub (.var 2) (.con (.int 1))) (.sub (.sub (.sub (.var 0) (.con (.str [112, 105, 108, 101, 115]))) (.sub (.var 2) (.con (.int 0)))) (.con (.int 1))))) [.ret (.tup [.con (.str [114, 101, 102, 117, 115, 101, 100]), .con (.str [110, 117, 109, 98, 101, 114])])] [],
  .expr (.call true 67 [.var 0, .sub (.var 2) (.con (.int 0)), .bin .sub (.con (.int 0)) (.sub (.var 2) (.con (.int 1)))]),
  .ret (.con .non)] [],
  .ite (.cmp .eq (.var 1) (.con (.str [112, 105, 108, 101]))) [.ret (.call true 75 [.var 0, .var 2])] [],
  .ite (.cmp .ne (.var 1) (.con (.str [106, 111, 105, 110]))) [.ret (.call true 76 [.var 0, .var 1, .var 2])] [],
  .ite (.cmp .eq (.sub (.var 2) (.con (.int 0))) (.sub (.var 2) (.con (.int 1)))) [.ret (.tup [.con (.str [114, 101, 102, 117, 115, 101, 100]), .con (.str [112, 105, 108, 101])])] [],
  .set 5 (.sub (.sub (.sub (.var 0) (.con (.str [112, 105, 108, 101, 115]))) (.sub (.var 2) (.con (.int 0)))) (.con (.int 1))),
  .set 6 (.call true 75 [.var 0, .tup [.sub (.var 2) (.con (.int 1)), .sub (.sub (.sub (.var 0) (.con (.str [112, 105, 108, 101, 115]))) (.sub (.var 2) (.con (.int 0)))) (.con (.int 0)), .var 5]]),
  .ite (.not (.isT (.var 6))) [.expr (.call true 67 [.var 0, .sub (.var 2) (.con (.int 0)), .bin .sub (.var 6) (.var 5)])] [],
  .ret (.var 6)]
/-- _law_call (k20) -/
def b__law_call : List DS := [
  .set 3 (.call true 10 [.var 0, .var 1, .lst false [.con (.str [112, 117, 116]), .con (.str [112, 117, 116]), .con (.str [112, 117, 116]), .con (.str [116, 97, 107, 101]), .con (.str [112, 105, 108, 101]), .con (.str [109, 111, 118, 101]), .con (.str [109, 111, 118, 101]), .con (.str [115, 112, 108, 105, 116]), .con (.str [106, 111, 105, 110])]]),
  .set 4 (.call true 10 [.var 0, .var 1, .lst false [.con (.str [97, 120]), .con (.str [98, 111, 119]), .con (.str [99, 111, 105, 110]), .con (.str [103, 101, 109]), .con (.str [99, 111, 105, 110])]]),
  .set 5 (.call true 10 [.var 0, .var 1, .bin .add (.keysL true (.sub (.var 2) (.con (.str [112, 105, 108, 101, 115])))) (.lst false [.bin .add (.sub (.var 2) (.con (.str [108, 97, 115, 116]))) (.con (.int 1))])]),
  .set 6 (.call true 10 [.var 0, .var 1, .lst false [.con (.int 1), .con (.int 1), .con (.int 2), .con (.int 3), .con (.int 0), .con (.int 9)]]),
  .par [7, 8] [.bin .sub (.call true 9 [.var 0, .var 1, .bin .add (.sub (.var 2) (.con (.str [114, 111, 119, 115]))) (.con (.int 2))]) (.con (.int 1)), .call true 9 [.var 0, .var 1, .bin .add (.sub (.var 2) (.con (.str [99, 111, 108, 117, 109, 110, 115]))) (.con (.int 1))]],
  .set 9 (.call true 9 [.var 0, .var 1, .con (.int 4)]),
  .ite (.cmp .eq (.var 3) (.con (.str [112, 117, 116]))) [.set 10 (.ifx (.cmp .gt (.call true 9 [.var 0, .var 1, .con (.int 15)]) (.con (.int 0))) (.var 4) (.con (.str [110, 111, 110, 101]))),
  .ret (.tup [.var 3, .tup [.var 10, .var 6, .call true 10 [.var 0, .var 1, .lst false [.con (.int 0), .var 9]], .var 7, .var 8]])] [],
  .ite (.cmp .eq (.var 3) (.con (.str [116, 97, 107, 101]))) [.ret (.tup [.var 3, .tup [.var 5, .var 6]])] [],
  .ite (.cmp .eq (.var 3) (.con (.str [112, 105, 108, 101]))) [.set 11 (.ifx (.cmp .inn (.var 5) (.sub (.var 2) (.con (.str [112, 105, 108, 101, 115])))) (.sub (.sub (.sub (.var 2) (.con (.str [112, 105, 108, 101, 115]))) (.var 5)) (.con (.int 0))) (.var 4)),
  .ret (.tup [.var 3, .tup [.var 5, .call true 10 [.var 0, .var 1, .lst false [.var 11, .var 11, .var 4]], .bin .sub (.var 6) (.bi .int [.cmp .eq (.var 6) (.con (.int 0))])]])] [],
  .ite (.cmp .eq (.var 3) (.con (.str [106, 111, 105, 110]))) [.ret (.tup [.var 3, .tup [.var 5, .call true 10 [.var 0, .var 1, .bin .add (.keysL true (.sub (.var 2) (.con (.str [112, 105, 108, 101, 115])))) (.lst false [.var 5])]]])] [],
  .ite (.cmp .eq (.var 3) (.con (.str [109, 111, 118, 101]))) [.ret (.tup [.var 3, .tup [.var 5, .var 9, .var 7, .var 8]])] [],
  .ret (.tup [.var 3, .tup [.var 5, .var 6, .var 9, .var 7, .var 8]])]
/-- law (k20) -/
def b_law_3 : List DS := [
  .set 1 (.lst true []),
  .set 2 (.call true 59 [.var 0, .var 1]),
  .par [3, 4] [.bin .add (.con (.int 1)) (.call true 9 [.var 0, .var 1, .con (.int 6)]), .bin .add (.con (.int 1)) (.call true 9 [.var 0, .var 1, .con (.int 6)])],
  .set 5 (.make 17 34 [.call true 60 [.var 2], .var 3, .var 4]),
  .set 6 (.call false 61 [.var 2, .var 3, .var 4]),
  .loop false ⟨[7], false⟩ .rng1 [.call true 9 [.var 0, .var 1, .con (.int 41)]] [.setT [8, 9] (.call true 78 [.var 0, .var 1, .var 6]),
  .set 10 (.ifx (.cmp .eq (.var 8) (.con (.str [109, 111, 118, 101]))) (.tup [.sub (.var 9) (.con (.int 0)), .con (.int 1), .sub (.var 9) (.con (.int 1)), .sub (.var 9) (.con (.int 2)), .sub (.var 9) (.con (.int 3))]) (.var 9)),
  .ite (.or (.cmp .ne (.call false 73 [.var 5, .var 8, .var 9]) (.call true 77 [.var 6, .var 8, .var 10])) (.not (.call true 72 [.var 5, .var 6]))) [.ret (.con (.bl false))] []],
  .loop true ⟨[11], false⟩ .keys [.sub (.var 6) (.con (.str [112, 105, 108, 101, 115]))] [.ite (.cmp .ne (.meth true 17 43 [112, 105, 108, 101] (.var 5) [.var 11]) (.sub (.sub (.var 6) (.con (.str [112, 105, 108, 101, 115]))) (.var 11))) [.ret (.con (.bl false))] []],
  .set 12 (.meth false 17 56 [115, 104, 111, 119, 110] (.var 5) []),
  .setI (.sub (.var 12) (.con (.int 0))) (.con (.int 0)) (.con (.int 99)),
  .expr (.bm .append (.meth false 17 57 [112, 105, 99, 116, 117, 114, 101] (.var 5) []) [.con (.str [108, 97, 116, 101])]),
  .ret (.call true 72 [.var 5, .var 6])]
/-- _law_told (k21) -/
def b__law_told_4 : List DS := [
  .set 3 (.con .non),
  .set 4 (.con .non),
  .tryE [.ite (.cmp .eq (.var 1) (.con (.str [97, 116]))) [.set 4 (.meth true 17 46 [97, 116] (.var 0) [.sub (.var 2) (.con (.int 0)), .sub (.var 2) (.con (.int 1))])] [.ite (.cmp .eq (.var 1) (.con (.str [102, 105, 116, 115]))) [.set 4 (.meth true 17 37 [102, 105, 116, 115] (.var 0) [.sub (.var 2) (.con (.int 0)), .sub (.var 2) (.con (.int 1)), .sub (.var 2) (.con (.int 2)), .sub (.var 2) (.con (.int 3))])] [.ite (.cmp .eq (.var 1) (.con (.str [110, 101, 119]))) [.set 4 (.cmp .isN (.make 17 34 [.var 0, .sub (.var 2) (.con (.int 0)), .sub (.var 2) (.con (.int 1))]) (.con .non))] [.set 4 (.meth true 17 52 [99, 111, 117, 110, 116] (.var 0) [.sub (.var 2) (.con (.int 0))])]]]] (some 5) [.set 3 (.var 5)],
  .ret (.ifx (.cmp .isN (.var 3) (.con .non)) (.var 4) (.call true 11 [.var 3]))]
/-- _law_goes (k21) -/
def b__law_goes : List DS := [
  .set 3 (.make 17 34 [.var 0, .sub (.var 1) (.con (.str [114, 111, 119, 115])), .sub (.var 1) (.con (.str [99, 111, 108, 117, 109, 110, 115]))]),
  .loop false ⟨[4], false⟩ .e [.keysL true (.sub (.var 1) (.con (.str [112, 105, 108, 101, 115])))] [.setT [5, 6, 7, 8, 9] (.sub (.sub (.var 1) (.con (.str [112, 105, 108, 101, 115]))) (.var 4)),
  .expr (.meth false 17 41 [112, 117, 116] (.var 3) [.var 5, .var 6, .var 7, .var 8, .var 9])],
  .set 10 (.con .non),
  .tryE [.expr (.meth false 17 41 [112, 117, 116] (.var 3) [.sub (.var 2) (.con (.int 0)), .con (.int 1), .sub (.var 2) (.con (.int 1)), .sub (.var 2) (.con (.int 2)), .sub (.var 2) (.con (.int 3))])] (some 11) [.set 10 (.var 11)],
  .ret (.cmp .isN (.var 10) (.con .non))]
/-- law (k21) -/
def b_law_4 : List DS := [
  .set 1 (.lst true []),
  .set 2 (.call true 59 [.var 0, .var 1]),
  .par [3, 4] [.bin .add (.con (.int 1)) (.call true 9 [.var 0, .var 1, .con (.int 4)]), .bin .add (.con (.int 1)) (.call true 9 [.var 0, .var 1, .con (.int 4)])],
  .set 5 (.call true 60 [.var 2]),
  .set 6 (.make 17 34 [.var 5, .var 3, .var 4]),
  .set 7 (.call false 61 [.var 2, .var 3, .var 4]),
  .loop false ⟨[8], false⟩ .rng1 [.call true 9 [.var 0, .var 1, .con (.int 9)]] [.set 9 (.call true 10 [.var 0, .var 1, .lst false [.con (.str [97, 120]), .con (.str [98, 111, 119]), .con (.str [99, 111, 105, 110]), .con (.str [103, 101, 109])]]),
  .par [10, 11] [.call true 9 [.var 0, .var 1, .con (.int 4)], .call true 9 [.var 0, .var 1, .var 3]],
  .set 12 (.call true 9 [.var 0, .var 1, .var 4]),
  .ite (.call true 65 [.var 7, .var 9, .var 10, .var 11, .var 12, .con .non]) [.expr (.call true 66 [.var 7, .var 9, .con (.int 1), .var 10, .var 11, .var 12]),
  .expr (.meth false 17 41 [112, 117, 116] (.var 6) [.var 9, .con (.int 1), .var 10, .var 11, .var 12])] []],
  .loop false ⟨[11], false⟩ .rng2 [.con (.int (-1)), .bin .add (.var 3) (.con (.int 1))] [.loop false ⟨[12], false⟩ .rng2 [.con (.int (-1)), .bin .add (.var 4) (.con (.int 1))] [.set 13 (.call true 64 [.var 7, .lst false [.tup [.var 11, .var 12]]]),
  .set 14 (.ifx (.cmp .ne (.var 13) (.lst false [])) (.sub (.var 13) (.con (.int 0))) (.con .non)),
  .ite (.cmp .ne (.call true 80 [.var 6, .con (.str [97, 116]), .tup [.var 11, .var 12]]) (.ifx (.cmp .eq (.var 14) (.con (.int 0))) (.tup [.con (.str [114, 101, 102, 117, 115, 101, 100]), .con (.str [112, 108, 97, 99, 101])]) (.var 14))) [.ret (.con (.bl false))] [],
  .set 9 (.call true 10 [.var 0, .var 1, .lst false [.con (.str [97, 120]), .con (.str [98, 111, 119]), .con (.str [99, 111, 105, 110]), .con (.str [103, 101, 109])]]),
  .loop false ⟨[10], false⟩ .rng1 [.con (.int 4)] [.set 15 (.tup [.var 9, .var 10, .var 11, .var 12]),
  .set 16 (.call true 65 [.var 7, .var 9, .var 10, .var 11, .var 12, .con .non]),
  .ite (.or (.cmp .ne (.call true 80 [.var 6, .con (.str [102, 105, 116, 115]), .var 15]) (.var 16)) (.cmp .ne (.call true 81 [.var 5, .var 7, .var 15]) (.var 16))) [.ret (.con (.bl false))] []]]],
  .set 15 (.lst false [.call true 80 [.var 6, .con (.str [102, 105, 116, 115]), .tup [.con (.str [110, 111, 110, 101]), .con (.int 0), .con (.int 0), .con (.int 0)]], .call true 80 [.var 6, .con (.str [99, 111, 117, 110, 116]), .tup [.con (.str [110, 111, 110, 101])]]]),
  .set 15 (.bin .add (.var 15) (.lst false [.call true 80 [.var 5, .con (.str [110, 101, 119]), .tup [.con (.int 0), .con (.int 5)]], .call true 80 [.var 5, .con (.str [110, 101, 119]), .tup [.con (.int 5), .con (.int 11)]]])),
  .ret (.cmp .eq (.var 15) (.lst false [.tup [.con (.str [114, 101, 102, 117, 115, 101, 100]), .con (.str [107, 105, 110, 100])], .tup [.con (.str [114, 101, 102, 117, 115, 101, 100]), .con (.str [107, 105, 110, 100])], .tup [.con (.str [114, 101, 102, 117, 115, 101, 100]), .con (.str [110, 117, 109, 98, 101, 114])], .tup [.con (.str [114, 101, 102, 117, 115, 101, 100]), .con (.str [110, 117, 109, 98, 101, 114])]]))]
/-- _law_filled (k22) -/
def b__law_filled : List DS := [
  .par [5, 6] [.bin .add (.con (.int 1)) (.call true 9 [.var 0, .var 1, .var 4]), .bin .add (.con (.int 1)) (.call true 9 [.var 0, .var 1, .var 4])],
  .set 7 (.make 17 34 [.var 3, .var 5, .var 6]),
  .set 8 (.call false 61 [.var 2, .var 5, .var 6]),
  .loop false ⟨[9], false⟩ .rng1 [.call true 9 [.var 0, .var 1, .con (.int 9)]] [.set 10 (.call true 10 [.var 0, .var 1, .lst false [.con (.str [97, 120]), .con (.str [98, 111, 119]), .con (.str [99, 111, 105, 110]), .con (.str [103, 101, 109])]]),
  .par [11, 12] [.call true 9 [.var 0, .var 1, .con (.int 4)], .call true 9 [.var 0, .var 1, .var 5]],
  .set 13 (.call true 9 [.var 0, .var 1, .var 6]),
  .set 14 (.bin .add (.con (.int 1)) (.call true 9 [.var 0, .var 1, .sub (.sub (.var 2) (.var 10)) (.con (.int 1))])),
  .ite (.call true 65 [.var 8, .var 10, .var 11, .var 12, .var 13, .con .non]) [.expr (.call true 66 [.var 8, .var 10, .var 14, .var 11, .var 12, .var 13]),
  .expr (.meth false 17 41 [112, 117, 116] (.var 7) [.var 10, .var 14, .var 11, .var 12, .var 13])] []],
  .ret (.tup [.var 7, .var 8])]
/-- _law_moved (k22) -/
def b__law_moved : List DS := [
  .setT [3, 4, 5, 6, 7] (.sub (.sub (.var 1) (.con (.str [112, 105, 108, 101, 115]))) (.var 2)),
  .loop false ⟨[8], false⟩ .rng1 [.sub (.var 1) (.con (.str [114, 111, 119, 115]))] [.loop false ⟨[9], false⟩ .rng1 [.sub (.var 1) (.con (.str [99, 111, 108, 117, 109, 110, 115]))] [.loop false ⟨[10], false⟩ .e [.call true 63 [.var 1, .var 3]] [.ite (.call true 65 [.var 1, .var 3, .var 10, .var 8, .var 9, .var 2]) [.expr (.meth false 17 49 [109, 111, 118, 101] (.var 0) [.var 2, .var 10, .var 8, .var 9]),
  .ite (.cmp .ne (.meth true 17 43 [112, 105, 108, 101] (.var 0) [.var 2]) (.tup [.var 3, .var 4, .var 10, .var 8, .var 9])) [.ret (.con (.bl false))] [],
  .set 11 (.call true 62 [.var 1, .var 3, .var 10, .var 8, .var 9]),
  .ite (.not (.bi .all [.lc false false ⟨[12], false⟩ .e [.var 11] none (.cmp .eq (.meth true 17 46 [97, 116] (.var 0) [.sub (.var 12) (.con (.int 0)), .sub (.var 12) (.con (.int 1))]) (.var 2)) [12]])) [.ret (.con (.bl false))] [],
  .expr (.meth false 17 49 [109, 111, 118, 101] (.var 0) [.var 2, .var 5, .var 6, .var 7])] []]]],
  .ret (.cmp .eq (.meth true 17 57 [112, 105, 99, 116, 117, 114, 101] (.var 0) []) (.call true 70 [.var 1]))]
/-- law (k22) -/
def b_law_5 : List DS := [
  .set 1 (.lst true []),
  .set 2 (.call true 59 [.var 0, .var 1]),
  .setT [3, 4] (.call false 83 [.var 0, .var 1, .var 2, .call true 60 [.var 2], .con (.int 4)]),
  .set 5 (.keysL true (.sub (.var 4) (.con (.str [112, 105, 108, 101, 115])))),
  .loop false ⟨[6], false⟩ .e [.call true 69 [.var 4]] [.ite (.not (.call false 84 [.var 3, .var 4, .var 6])) [.ret (.con (.bl false))] [],
  .setT [7, 8, 9, 10, 11] (.sub (.sub (.var 4) (.con (.str [112, 105, 108, 101, 115]))) (.var 6)),
  .set 12 (.lst false []),
  .loop false ⟨[13], false⟩ .rng1 [.sub (.var 4) (.con (.str [114, 111, 119, 115]))] [.set 14 (.lc false false ⟨[15], false⟩ .rng1 [.sub (.var 4) (.con (.str [99, 111, 108, 117, 109, 110, 115]))] (some (.meth true 17 37 [102, 105, 116, 115] (.var 3) [.var 7, .var 9, .var 13, .var 15])) (.var 15) [15]),
  .set 12 (.bin .add (.var 12) (.lc false false ⟨[15], false⟩ .e [.var 14] none (.tup [.var 13, .var 15]) [15]))],
  .ite (.and (.cmp .gt (.var 8) (.con (.int 1))) (.cmp .ne (.var 12) (.lst false []))) [.set 16 (.meth false 17 50 [115, 112, 108, 105, 116] (.var 3) [.var 6, .bin .sub (.var 8) (.con (.int 1)), .var 9, .sub (.sub (.var 12) (.con (.int 0))) (.con (.int 0)), .sub (.sub (.var 12) (.con (.int 0))) (.con (.int 1))]),
  .ite (.or (.cmp .inn (.var 16) (.var 5)) (.or (.cmp .ne (.meth true 17 52 [99, 111, 117, 110, 116] (.var 3) [.var 7]) (.call true 71 [.var 4, .var 7])) (.cmp .ne (.sub (.meth true 17 43 [112, 105, 108, 101] (.var 3) [.var 6]) (.con (.int 1))) (.con (.int 1))))) [.ret (.con (.bl false))] [],
  .expr (.bm .append (.var 5) [.var 16]),
  .ite (.or (.cmp .ne (.meth true 17 51 [106, 111, 105, 110] (.var 3) [.var 16, .var 6]) (.con (.int 0))) (.not (.cmp .eq (.meth true 17 57 [112, 105, 99, 116, 117, 114, 101] (.var 3) []) (.call true 70 [.var 4])))) [.ret (.con (.bl false))] []] [],
  .expr (.meth true 17 47 [116, 97, 107, 101] (.var 3) [.var 6, .var 8]),
  .ite (.or (.cmp .inn (.var 6) (.meth true 17 45 [110, 117, 109, 98, 101, 114, 115] (.var 3) [])) (.not (.meth true 17 37 [102, 105, 116, 115] (.var 3) [.var 7, .var 9, .var 10, .var 11]))) [.ret (.con (.bl false))] [],
  .set 16 (.meth false 17 41 [112, 117, 116] (.var 3) [.var 7, .var 8, .var 9, .var 10, .var 11]),
  .ite (.or (.cmp .inn (.var 16) (.var 5)) (.cmp .lt (.var 16) (.bi .max1 [.var 5]))) [.ret (.con (.bl false))] [],
  .expr (.bm .append (.var 5) [.var 16])],
  .ret (.cmp .eq (.meth true 17 57 [112, 105, 99, 116, 117, 114, 101] (.var 3) []) (.call true 70 [.var 4]))]
/-- Bag.twin (k30) -/
def b_Bag_twin : List DS := [
  .set 1 (.make 17 34 [.att 17 (.var 0) [98, 111, 111, 107], .att 17 (.var 0) [114, 111, 119, 115], .att 17 (.var 0) [99, 111, 108, 117, 109, 110, 115]]),
  .loop true ⟨[2], false⟩ .keys [.att 17 (.var 0) [112, 105, 108, 101, 115]] [.set 3 (.sub (.att 17 (.var 0) [112, 105, 108, 101, 115]) (.var 2)),
  .expr (.meth true 17 39 [108, 97, 121] (.var 1) [.var 2, .make 16 32 [.att 16 (.var 3) [107, 105, 110, 100], .att 16 (.var 3) [109, 97, 110, 121], .att 16 (.var 3) [116, 117, 114, 110], .att 16 (.var 3) [114, 111, 119], .att 16 (.var 3) [99, 111, 108, 117, 109, 110]]])],
  .setA 17 (.var 1) [108, 97, 115, 116] (.att 17 (.var 0) [108, 97, 115, 116]),
  .ret (.var 1)]
/-- first_place (k30) -/
def b_first_place : List DS := [
  .loop false ⟨[2], false⟩ .rng1 [.att 17 (.var 0) [114, 111, 119, 115]] [.loop false ⟨[3], false⟩ .rng1 [.att 17 (.var 0) [99, 111, 108, 117, 109, 110, 115]] [.loop false ⟨[4], false⟩ .e [.meth true 18 25 [116, 117, 114, 110, 115] (.att 17 (.var 0) [98, 111, 111, 107]) [.var 1]] [.ite (.meth true 17 37 [102, 105, 116, 115] (.var 0) [.var 1, .var 4, .var 2, .var 3]) [.ret (.tup [.var 4, .var 2, .var 3])] []]]],
  .ret (.con .non)]
/-- look_many (k30) -/
def b_look_many : List DS := [
  .ite (.cmp .lt (.var 0) (.con (.int 0))) [.rais 3] []]
/-- add (k30) -/
def b_add : List DS := [
  .expr (.meth true 18 21 [110, 101, 101, 100] (.att 17 (.var 0) [98, 111, 111, 107]) [.var 1]),
  .expr (.call true 88 [.var 2]),
  .loop false ⟨[3], false⟩ .e [.meth true 17 45 [110, 117, 109, 98, 101, 114, 115] (.var 0) []] [.ite (.and (.cmp .eq (.att 16 (.sub (.att 17 (.var 0) [112, 105, 108, 101, 115]) (.var 3)) [107, 105, 110, 100]) (.var 1)) (.cmp .gt (.var 2) (.con (.int 0)))) [.set 2 (.meth true 17 48 [112, 105, 108, 101, 95, 117, 112] (.var 0) [.var 3, .var 1, .var 2])] []],
  .whl (.cmp .gt (.var 2) (.con (.int 0))) [.set 4 (.call true 87 [.var 0, .var 1]),
  .ite (.cmp .isN (.var 4) (.con .non)) [.ret (.var 2)] [],
  .set 5 (.bi .min2 [.var 2, .meth true 18 24 [109, 111, 115, 116] (.att 17 (.var 0) [98, 111, 111, 107]) [.var 1]]),
  .expr (.meth false 17 41 [112, 117, 116] (.var 0) [.var 1, .var 5, .sub (.var 4) (.con (.int 0)), .sub (.var 4) (.con (.int 1)), .sub (.var 4) (.con (.int 2))]),
  .set 2 (.bin .sub (.var 2) (.var 5))],
  .ret (.con (.int 0))]
/-- drop (k30) -/
def b_drop : List DS := [
  .expr (.meth true 18 21 [110, 101, 101, 100] (.att 17 (.var 0) [98, 111, 111, 107]) [.var 1]),
  .expr (.call true 88 [.var 2]),
  .set 3 (.lc false false ⟨[4], false⟩ .e [.rev (.meth true 17 45 [110, 117, 109, 98, 101, 114, 115] (.var 0) [])] (some (.cmp .eq (.att 16 (.sub (.att 17 (.var 0) [112, 105, 108, 101, 115]) (.var 4)) [107, 105, 110, 100]) (.var 1))) (.var 4) [4]),
  .set 5 (.bi .sorted [.lc false false ⟨[6], false⟩ .rng1 [.bi .len [.var 3]] none (.tup [.att 16 (.sub (.att 17 (.var 0) [112, 105, 108, 101, 115]) (.sub (.var 3) (.var 6))) [109, 97, 110, 121], .var 6, .sub (.var 3) (.var 6)]) [6]]),
  .loop false ⟨[7, 6, 4], true⟩ .e [.var 5] [.ite (.cmp .gt (.var 2) (.con (.int 0))) [.set 8 (.bi .min2 [.var 2, .var 7]),
  .expr (.meth true 17 47 [116, 97, 107, 101] (.var 0) [.var 4, .var 8]),
  .set 2 (.bin .sub (.var 2) (.var 8))] []],
  .ret (.var 2)]
/-- room_for (k30) -/
def b_room_for : List DS := [
  .ret (.cmp .eq (.call false 89 [.meth false 17 86 [116, 119, 105, 110] (.var 0) [], .var 1, .var 2]) (.con (.int 0)))]
/-- _law_place (k30) -/
def b__law_place : List DS := [
  .loop false ⟨[2], false⟩ .rng1 [.sub (.var 0) (.con (.str [114, 111, 119, 115]))] [.loop false ⟨[3], false⟩ .rng1 [.sub (.var 0) (.con (.str [99, 111, 108, 117, 109, 110, 115]))] [.loop false ⟨[4], false⟩ .e [.call true 63 [.var 0, .var 1]] [.ite (.call true 65 [.var 0, .var 1, .var 4, .var 2, .var 3, .con .non]) [.ret (.tup [.var 4, .var 2, .var 3])] []]]],
  .ret (.con .non)]
/-- _law_add (k30) -/
def b__law_add : List DS := [
  .set 3 (.sub (.sub (.sub (.var 0) (.con (.str [107, 105, 110, 100, 115]))) (.var 1)) (.con (.int 1))),
  .loop false ⟨[4], false⟩ .e [.call true 69 [.var 0]] [.set 5 (.sub (.sub (.sub (.var 0) (.con (.str [112, 105, 108, 101, 115]))) (.var 4)) (.con (.int 1))),
  .ite (.cmp .eq (.sub (.sub (.sub (.var 0) (.con (.str [112, 105, 108, 101, 115]))) (.var 4)) (.con (.int 0))) (.var 1)) [.set 6 (.bi .min2 [.var 2, .bin .sub (.var 3) (.var 5)]),
  .expr (.call true 67 [.var 0, .var 4, .var 6]),
  .set 2 (.bin .sub (.var 2) (.var 6))] []],
  .set 7 (.call true 92 [.var 0, .var 1]),
  .whl (.and (.cmp .gt (.var 2) (.con (.int 0))) (.cmp .notN (.var 7) (.con .non))) [.set 8 (.bi .min2 [.var 2, .var 3]),
  .expr (.call true 66 [.var 0, .var 1, .var 8, .sub (.var 7) (.con (.int 0)), .sub (.var 7) (.con (.int 1)), .sub (.var 7) (.con (.int 2))]),
  .set 2 (.bin .sub (.var 2) (.var 8)),
  .set 7 (.call true 92 [.var 0, .var 1])],
  .ret (.var 2)]
/-- _law_drop (k30) -/
def b__law_drop : List DS := [
  .whl (.and (.cmp .gt (.var 2) (.con (.int 0))) (.cmp .gt (.call true 71 [.var 0, .var 1]) (.con (.int 0)))) [.set 3 (.call true 69 [.var 0]),
  .set 4 (.lc false false ⟨[5], false⟩ .rng1 [.bi .len [.var 3]] none (.tup [.sub (.sub (.sub (.var 0) (.con (.str [112, 105, 108, 101, 115]))) (.sub (.var 3) (.var 5))) (.con (.int 1)), .bin .sub (.con (.int 0)) (.var 5), .sub (.var 3) (.var 5)]) [5]),
  .setT [6, 5, 7] (.bi .min1 [.lc false false ⟨[8], false⟩ .e [.var 4] (some (.cmp .eq (.sub (.sub (.sub (.var 0) (.con (.str [112, 105, 108, 101, 115]))) (.sub (.var 8) (.con (.int 2)))) (.con (.int 0))) (.var 1))) (.var 8) [8]]),
  .set 9 (.bi .min2 [.var 2, .var 6]),
  .expr (.call true 67 [.var 0, .var 7, .bin .sub (.con (.int 0)) (.var 9)]),
  .set 2 (.bin .sub (.var 2) (.var 9))],
  .ret (.var 2)]
/-- _law_twin (k30) -/
def b__law_twin : List DS := [
  .set 1 (.call false 61 [.sub (.var 0) (.con (.str [107, 105, 110, 100, 115])), .sub (.var 0) (.con (.str [114, 111, 119, 115])), .sub (.var 0) (.con (.str [99, 111, 108, 117, 109, 110, 115]))]),
  .setI (.var 1) (.con (.str [112, 105, 108, 101, 115])) (.bm .dcopy (.sub (.var 0) (.con (.str [112, 105, 108, 101, 115]))) []),
  .setI (.var 1) (.con (.str [108, 97, 115, 116])) (.sub (.var 0) (.con (.str [108, 97, 115, 116]))),
  .ret (.var 1)]
/-- _law_told (k30) -/
def b__law_told_5 : List DS := [
  .set 4 (.con .non),
  .set 5 (.con .non),
  .tryE [.ite (.cmp .eq (.var 0) (.con (.int 0))) [.set 5 (.call false 89 [.var 1, .var 2, .var 3])] [.ite (.cmp .eq (.var 0) (.con (.int 1))) [.set 5 (.call true 90 [.var 1, .var 2, .var 3])] [.set 5 (.ifx (.cmp .eq (.var 0) (.con (.int 2))) (.call true 91 [.var 1, .var 2, .var 3]) (.call true 87 [.var 1, .var 2]))]]] (some 6) [.set 4 (.var 6)],
  .ret (.ifx (.cmp .isN (.var 4) (.con .non)) (.var 5) (.call true 11 [.var 4]))]
/-- law (k30) -/
def b_law_6 : List DS := [
  .set 1 (.lst true []),
  .set 2 (.call true 59 [.var 0, .var 1]),
  .setT [3, 4] (.call false 83 [.var 0, .var 1, .var 2, .call true 60 [.var 2], .con (.int 6)]),
  .loop false ⟨[5], false⟩ .rng1 [.call true 9 [.var 0, .var 1, .con (.int 21)]] [.set 6 (.call true 10 [.var 0, .var 1, .lst false [.con (.str [97, 120]), .con (.str [98, 111, 119]), .con (.str [99, 111, 105, 110]), .con (.str [103, 101, 109])]]),
  .set 7 (.call true 10 [.var 0, .var 1, .lst false [.con (.int 0), .con (.int 1), .con (.int 2), .con (.int 5), .con (.int 12), .con (.int 30)]]),
  .set 8 (.call true 9 [.var 0, .var 1, .con (.int 3)]),
  .set 9 (.call false 95 [.var 4]),
  .ite (.cmp .ne (.call false 96 [.con (.int 2), .var 3, .var 6, .var 7]) (.cmp .eq (.call true 93 [.var 9, .var 6, .var 7]) (.con (.int 0)))) [.ret (.con (.bl false))] [],
  .ite (.cmp .ne (.call false 96 [.con (.int 3), .var 3, .var 6, .con (.int 0)]) (.call true 92 [.var 4, .var 6])) [.ret (.con (.bl false))] [],
  .set 10 (.ifx (.cmp .lt (.var 8) (.con (.int 2))) (.call true 93 [.var 4, .var 6, .var 7]) (.call true 94 [.var 4, .var 6, .var 7])),
  .ite (.or (.cmp .ne (.call false 96 [.bi .int [.cmp .eq (.var 8) (.con (.int 2))], .var 3, .var 6, .var 7]) (.var 10)) (.not (.call true 72 [.var 3, .var 4]))) [.ret (.con (.bl false))] []],
  .set 11 (.lc false false ⟨[8], false⟩ .rng1 [.con (.int 4)] none (.call false 96 [.var 8, .var 3, .con (.str [110, 111, 110, 101]), .con (.int (-1))]) [8]),
  .ite (.cmp .ne (.var 11) (.bin .mul (.lst false [.tup [.con (.str [114, 101, 102, 117, 115, 101, 100]), .con (.str [107, 105, 110, 100])]]) (.con (.int 4)))) [.ret (.con (.bl false))] [],
  .set 11 (.lc false false ⟨[8], false⟩ .rng1 [.con (.int 3)] none (.call false 96 [.var 8, .var 3, .con (.str [97, 120]), .con (.int (-1))]) [8]),
  .ret (.and (.cmp .eq (.var 11) (.bin .mul (.lst false [.tup [.con (.str [114, 101, 102, 117, 115, 101, 100]), .con (.str [110, 117, 109, 98, 101, 114])]]) (.con (.int 3)))) (.call true 72 [.var 3, .var 4]))]
/-- _law_others (k31) -/
def b__law_others : List DS := [
  .ret (.lc false false ⟨[2], false⟩ .e [.meth true 17 57 [112, 105, 99, 116, 117, 114, 101] (.var 0) []] (some (.cmp .ne (.sub (.var 2) (.con (.int 0))) (.var 1))) (.var 2) [2])]
/-- law (k31) -/
def b_law_7 : List DS := [
  .set 1 (.lst true []),
  .set 2 (.call true 59 [.var 0, .var 1]),
  .set 3 (.call true 60 [.var 2]),
  .setT [4, 5] (.call false 83 [.var 0, .var 1, .var 2, .var 3, .con (.int 6)]),
  .loop false ⟨[6], false⟩ .rng1 [.con (.int 8)] [.set 7 (.call true 10 [.var 0, .var 1, .lst false [.con (.str [97, 120]), .con (.str [98, 111, 119]), .con (.str [99, 111, 105, 110]), .con (.str [103, 101, 109])]]),
  .set 8 (.call true 9 [.var 0, .var 1, .con (.int 25)]),
  .set 9 (.meth true 17 52 [99, 111, 117, 110, 116] (.var 4) [.var 7]),
  .set 10 (.call true 98 [.var 4, .var 7]),
  .set 11 (.call false 89 [.var 4, .var 7, .var 8]),
  .ite (.or (.cmp .ne (.meth true 17 52 [99, 111, 117, 110, 116] (.var 4) [.var 7]) (.bin .sub (.bin .add (.var 9) (.var 8)) (.var 11))) (.or (.cmp .ne (.call true 98 [.var 4, .var 7]) (.var 10)) (.not (.chain .le .le (.con (.int 0)) (.var 11) (.var 8))))) [.ret (.con (.bl false))] [],
  .ite (.and (.cmp .gt (.var 11) (.con (.int 0))) (.or (.cmp .notN (.call true 87 [.var 4, .var 7]) (.con .non)) (.cmp .ne (.call false 89 [.var 4, .var 7, .con (.int 1)]) (.con (.int 1))))) [.ret (.con (.bl false))] [],
  .ite (.or (.cmp .ne (.call true 90 [.var 4, .var 7, .bin .sub (.var 8) (.var 11)]) (.con (.int 0))) (.or (.cmp .ne (.meth true 17 52 [99, 111, 117, 110, 116] (.var 4) [.var 7]) (.var 9)) (.cmp .ne (.call true 98 [.var 4, .var 7]) (.var 10)))) [.ret (.con (.bl false))] [],
  .ite (.or (.cmp .ne (.call true 90 [.var 4, .var 7, .bin .add (.var 9) (.con (.int 7))]) (.con (.int 7))) (.or (.cmp .ne (.meth true 17 52 [99, 111, 117, 110, 116] (.var 4) [.var 7]) (.con (.int 0))) (.cmp .ne (.call true 98 [.var 4, .var 7]) (.var 10)))) [.ret (.con (.bl false))] [],
  .set 12 (.call false 89 [.var 4, .var 7, .var 9]),
  .ite (.cmp .ne (.meth true 17 52 [99, 111, 117, 110, 116] (.var 4) [.var 7]) (.bin .sub (.var 9) (.var 12))) [.ret (.con (.bl false))] []],
  .set 13 (.make 17 34 [.var 3, .con (.int 3), .con (.int 4)]),
  .ret (.and (.cmp .eq (.call false 89 [.var 13, .con (.str [99, 111, 105, 110]), .con (.int 200)]) (.bin .sub (.con (.int 200)) (.bin .mul (.con (.int 12)) (.con (.int 9))))) (.and (.cmp .eq (.meth true 17 55 [102, 114, 101, 101] (.var 13) []) (.con (.int 0))) (.cmp .eq (.meth true 17 53 [99, 111, 117, 110, 116, 115] (.var 13) []) (.lst false [.tup [.con (.str [99, 111, 105, 110]), .con (.int 108)]]))))]
/-- packed_kinds (k32) -/
def b_packed_kinds : List DS := [
  .set 1 (.lc false false ⟨[2, 3], true⟩ .e [.meth true 17 53 [99, 111, 117, 110, 116, 115] (.var 0) []] none (.tup [.bin .sub (.con (.int 0)) (.bi .len [.meth true 17 35 [99, 101, 108, 108, 115, 95, 111, 102] (.var 0) [.var 2, .con (.int 0), .con (.int 0), .con (.int 0)]]), .var 2]) [2, 3]),
  .ret (.lc false false ⟨[4, 2], true⟩ .e [.bi .sorted [.var 1]] none (.var 2) [4, 2])]
/-- tidy (k32) -/
def b_tidy : List DS := [
  .set 1 (.make 17 34 [.att 17 (.var 0) [98, 111, 111, 107], .att 17 (.var 0) [114, 111, 119, 115], .att 17 (.var 0) [99, 111, 108, 117, 109, 110, 115]]),
  .setA 17 (.var 1) [108, 97, 115, 116] (.att 17 (.var 0) [108, 97, 115, 116]),
  .loop false ⟨[2], false⟩ .e [.call true 100 [.var 0]] [.ite (.cmp .gt (.call false 89 [.var 1, .var 2, .meth true 17 52 [99, 111, 117, 110, 116] (.var 0) [.var 2]]) (.con (.int 0))) [.ret (.con (.bl false))] []],
  .expr (.meth true 17 58 [98, 101, 99, 111, 109, 101] (.var 0) [.var 1]),
  .ret (.con (.bl true))]
/-- _law_tidy (k32) -/
def b__law_tidy : List DS := [
  .set 1 (.call false 61 [.sub (.var 0) (.con (.str [107, 105, 110, 100, 115])), .sub (.var 0) (.con (.str [114, 111, 119, 115])), .sub (.var 0) (.con (.str [99, 111, 108, 117, 109, 110, 115]))]),
  .setI (.var 1) (.con (.str [108, 97, 115, 116])) (.sub (.var 0) (.con (.str [108, 97, 115, 116]))),
  .set 2 (.lc false false ⟨[3], false⟩ .e [.keysL true (.sub (.var 0) (.con (.str [107, 105, 110, 100, 115])))] (some (.cmp .gt (.call true 71 [.var 0, .var 3]) (.con (.int 0)))) (.var 3) [3]),
  .set 4 (.bi .sorted [.lc false false ⟨[3], false⟩ .e [.var 2] none (.tup [.bin .sub (.con (.int 0)) (.bi .len [.call true 13 [.sub (.sub (.sub (.var 0) (.con (.str [107, 105, 110, 100, 115]))) (.var 3)) (.con (.int 0)), .con (.int 0)]]), .var 3]) [3]]),
  .loop false ⟨[5, 3], true⟩ .e [.var 4] [.ite (.cmp .gt (.call true 93 [.var 1, .var 3, .call true 71 [.var 0, .var 3]]) (.con (.int 0))) [.ret (.con .non)] []],
  .ret (.var 1)]
/-- law (k32) -/
def b_law_8 : List DS := [
  .set 1 (.lst true []),
  .set 2 (.call true 59 [.var 0, .var 1]),
  .setT [3, 4] (.call false 83 [.var 0, .var 1, .var 2, .call true 60 [.var 2], .call true 10 [.var 0, .var 1, .lst false [.con (.int 3), .con (.int 6)]]]),
  .ite (.cmp .eq (.call true 9 [.var 0, .var 1, .con (.int 2)]) (.con (.int 0))) [.set 5 (.call true 10 [.var 0, .var 1, .lst false [.con (.str [97, 120]), .con (.str [98, 111, 119]), .con (.str [99, 111, 105, 110]), .con (.str [103, 101, 109])]]),
  .expr (.call false 89 [.var 3, .var 5, .con (.int 9)]),
  .expr (.call true 93 [.var 4, .var 5, .con (.int 9)])] [],
  .set 6 (.meth true 17 53 [99, 111, 117, 110, 116, 115] (.var 3) []),
  .set 7 (.bi .len [.meth true 17 45 [110, 117, 109, 98, 101, 114, 115] (.var 3) []]),
  .set 8 (.call false 102 [.var 4]),
  .ite (.or (.cmp .ne (.call false 101 [.var 3]) (.cmp .notN (.var 8) (.con .non))) (.cmp .ne (.meth true 17 53 [99, 111, 117, 110, 116, 115] (.var 3) []) (.var 6))) [.ret (.con (.bl false))] [],
  .ite (.cmp .isN (.var 8) (.con .non)) [.ret (.call true 72 [.var 3, .var 4])] [],
  .ite (.or (.not (.call true 72 [.var 3, .var 8])) (.cmp .gt (.bi .len [.meth true 17 45 [110, 117, 109, 98, 101, 114, 115] (.var 3) []]) (.var 7))) [.ret (.con (.bl false))] [],
  .set 9 (.meth true 17 57 [112, 105, 99, 116, 117, 114, 101] (.var 3) []),
  .ret (.and (.call false 101 [.var 3]) (.cmp .eq (.meth true 17 57 [112, 105, 99, 116, 117, 114, 101] (.var 3) []) (.var 9)))]
/-- shift (k33) -/
def b_shift : List DS := [
  .expr (.meth true 17 42 [110, 101, 101, 100] (.var 0) [.var 1]),
  .setT [3, 4] (.slc (.meth true 17 43 [112, 105, 108, 101] (.var 0) [.var 1]) none (some (.con (.int 2)))),
  .set 5 (.call false 89 [.var 2, .var 3, .var 4]),
  .ite (.cmp .lt (.var 5) (.var 4)) [.expr (.meth true 17 47 [116, 97, 107, 101] (.var 0) [.var 1, .bin .sub (.var 4) (.var 5)])] [],
  .ret (.var 5)]
/-- shift_all (k33) -/
def b_shift_all : List DS := [
  .ret (.bi .sum [.lc false false ⟨[2], false⟩ .e [.meth true 17 45 [110, 117, 109, 98, 101, 114, 115] (.var 0) []] none (.call false 104 [.var 0, .var 2, .var 1]) [2]])]
/-- _law_told (k33) -/
def b__law_told_6 : List DS := [
  .set 3 (.con .non),
  .set 4 (.con .non),
  .tryE [.set 4 (.call false 104 [.var 0, .var 1, .var 2])] (some 5) [.set 3 (.var 5)],
  .ret (.ifx (.cmp .isN (.var 3) (.con .non)) (.var 4) (.call true 11 [.var 3]))]
/-- _law_shift (k33) -/
def b__law_shift : List DS := [
  .setT [3, 4] (.slc (.sub (.sub (.var 0) (.con (.str [112, 105, 108, 101, 115]))) (.var 1)) none (some (.con (.int 2)))),
  .set 5 (.call true 93 [.var 2, .var 3, .var 4]),
  .expr (.call true 67 [.var 0, .var 1, .bin .sub (.var 5) (.var 4)]),
  .ret (.var 5)]
/-- law (k33) -/
def b_law_9 : List DS := [
  .set 1 (.lst true []),
  .set 2 (.call true 59 [.var 0, .var 1]),
  .set 3 (.call true 60 [.var 2]),
  .set 4 (.lc false false ⟨[5], false⟩ .rng1 [.con (.int 2)] none (.call false 83 [.var 0, .var 1, .var 2, .var 3, .con (.int 5)]) [5]),
  .set 6 (.lc false false ⟨[7], false⟩ .e [.meth true 18 22 [110, 97, 109, 101, 115] (.var 3) []] none (.bi .sum [.lc false false ⟨[8, 9], true⟩ .e [.var 4] none (.meth true 17 52 [99, 111, 117, 110, 116] (.var 8) [.var 7]) [8, 9]]) [7]),
  .loop false ⟨[5], false⟩ .rng1 [.call true 9 [.var 0, .var 1, .con (.int 13)]] [.set 10 (.call true 9 [.var 0, .var 1, .con (.int 2)]),
  .setT [8, 9] (.sub (.var 4) (.var 10)),
  .setT [11, 12] (.sub (.var 4) (.bin .sub (.con (.int 1)) (.var 10))),
  .set 13 (.call true 10 [.var 0, .var 1, .bin .add (.meth true 17 45 [110, 117, 109, 98, 101, 114, 115] (.var 8) []) (.lst false [.bin .add (.sub (.var 9) (.con (.str [108, 97, 115, 116]))) (.con (.int 1))])]),
  .set 14 (.tup [.con (.str [114, 101, 102, 117, 115, 101, 100]), .con (.str [112, 105, 108, 101])]),
  .ite (.cmp .inn (.var 13) (.sub (.var 9) (.con (.str [112, 105, 108, 101, 115])))) [.set 14 (.call true 107 [.var 9, .var 13, .var 12])] [],
  .ite (.cmp .ne (.call false 106 [.var 8, .var 13, .var 11]) (.var 14)) [.ret (.con (.bl false))] [],
  .ite (.or (.not (.call true 72 [.var 8, .var 9])) (.not (.call true 72 [.var 11, .var 12]))) [.ret (.con (.bl false))] []],
  .set 14 (.bi .sum [.lc false false ⟨[13], false⟩ .e [.call true 69 [.sub (.sub (.var 4) (.con (.int 0))) (.con (.int 1))]] none (.call true 107 [.sub (.sub (.var 4) (.con (.int 0))) (.con (.int 1)), .var 13, .sub (.sub (.var 4) (.con (.int 1))) (.con (.int 1))]) [13]]),
  .ite (.cmp .ne (.call false 105 [.sub (.sub (.var 4) (.con (.int 0))) (.con (.int 0)), .sub (.sub (.var 4) (.con (.int 1))) (.con (.int 0))]) (.var 14)) [.ret (.con (.bl false))] [],
  .ite (.or (.not (.call true 72 [.sub (.sub (.var 4) (.con (.int 0))) (.con (.int 0)), .sub (.sub (.var 4) (.con (.int 0))) (.con (.int 1))])) (.not (.call true 72 [.sub (.sub (.var 4) (.con (.int 1))) (.con (.int 0)), .sub (.sub (.var 4) (.con (.int 1))) (.con (.int 1))]))) [.ret (.con (.bl false))] [],
  .ret (.cmp .eq (.var 6) (.lc false false ⟨[7], false⟩ .e [.meth true 18 22 [110, 97, 109, 101, 115] (.var 3) []] none (.bi .sum [.lc false false ⟨[8, 9], true⟩ .e [.var 4] none (.meth true 17 52 [99, 111, 117, 110, 116] (.var 8) [.var 7]) [8, 9]]) [7]))]
/-- _law_like (k34) -/
def b__law_like : List DS := [
  .set 2 (.make 17 34 [.var 0, .sub (.var 1) (.con (.str [114, 111, 119, 115])), .sub (.var 1) (.con (.str [99, 111, 108, 117, 109, 110, 115]))]),
  .loop false ⟨[3], false⟩ .e [.keysL true (.sub (.var 1) (.con (.str [112, 105, 108, 101, 115])))] [.setT [4, 5, 6, 7, 8] (.sub (.sub (.var 1) (.con (.str [112, 105, 108, 101, 115]))) (.var 3)),
  .expr (.meth false 17 41 [112, 117, 116] (.var 2) [.var 4, .var 5, .var 6, .var 7, .var 8])],
  .ret (.var 2)]
/-- law (k34) -/
def b_law_10 : List DS := [
  .set 1 (.lst true []),
  .set 2 (.call true 59 [.var 0, .var 1]),
  .set 3 (.call true 60 [.var 2]),
  .set 4 (.sub (.call false 83 [.var 0, .var 1, .var 2, .var 3, .con (.int 5)]) (.con (.int 1))),
  .set 5 (.lc false false ⟨[6], false⟩ .rng1 [.con (.int 3)] none (.call false 109 [.var 3, .var 4]) [6]),
  .loop false ⟨[6], false⟩ .rng1 [.con (.int 4)] [.set 7 (.call true 10 [.var 0, .var 1, .lst false [.con (.str [97, 120]), .con (.str [98, 111, 119]), .con (.str [99, 111, 105, 110]), .con (.str [103, 101, 109])]]),
  .set 8 (.call true 9 [.var 0, .var 1, .con (.int 20)]),
  .set 9 (.call true 9 [.var 0, .var 1, .bin .add (.var 8) (.con (.int 1))]),
  .set 10 (.lc false false ⟨[11], false⟩ .rng1 [.bin .add (.var 8) (.con (.int 2))] none (.call true 91 [.sub (.var 5) (.con (.int 0)), .var 7, .var 11]) [11]),
  .ite (.or (.cmp .ne (.var 10) (.rev (.bi .sorted [.var 10]))) (.not (.sub (.var 10) (.con (.int 0))))) [.ret (.con (.bl false))] [],
  .set 12 (.call false 89 [.sub (.var 5) (.con (.int 0)), .var 7, .var 8]),
  .ite (.cmp .ne (.cmp .eq (.var 12) (.con (.int 0))) (.sub (.var 10) (.var 8))) [.ret (.con (.bl false))] [],
  .ite (.cmp .ne (.bin .add (.call false 89 [.sub (.var 5) (.con (.int 1)), .var 7, .var 9]) (.call false 89 [.sub (.var 5) (.con (.int 1)), .var 7, .bin .sub (.var 8) (.var 9)])) (.var 12)) [.ret (.con (.bl false))] [],
  .ite (.cmp .ne (.bi .sum [.lc false false ⟨[13], false⟩ .rng1 [.var 8] none (.call false 89 [.sub (.var 5) (.con (.int 2)), .var 7, .con (.int 1)]) [13]]) (.var 12)) [.ret (.con (.bl false))] [],
  .ite (.or (.cmp .ne (.meth true 17 57 [112, 105, 99, 116, 117, 114, 101] (.sub (.var 5) (.con (.int 0))) []) (.meth true 17 57 [112, 105, 99, 116, 117, 114, 101] (.sub (.var 5) (.con (.int 1))) [])) (.cmp .ne (.meth true 17 57 [112, 105, 99, 116, 117, 114, 101] (.sub (.var 5) (.con (.int 0))) []) (.meth true 17 57 [112, 105, 99, 116, 117, 114, 101] (.sub (.var 5) (.con (.int 2))) []))) [.ret (.con (.bl false))] [],
  .ite (.or (.cmp .ne (.meth true 17 45 [110, 117, 109, 98, 101, 114, 115] (.sub (.var 5) (.con (.int 0))) []) (.meth true 17 45 [110, 117, 109, 98, 101, 114, 115] (.sub (.var 5) (.con (.int 1))) [])) (.cmp .ne (.meth true 17 56 [115, 104, 111, 119, 110] (.sub (.var 5) (.con (.int 0))) []) (.meth true 17 56 [115, 104, 111, 119, 110] (.sub (.var 5) (.con (.int 2))) []))) [.ret (.con (.bl false))] []],
  .ret (.con (.bl true))]
/-- Hand.__init__ (k40) -/
def b_Hand___init__ : List DS := [
  .setA 19 (.var 0) [98, 97, 103] (.var 1),
  .setA 19 (.var 0) [107, 105, 110, 100] (.con .non),
  .setA 19 (.var 0) [109, 97, 110, 121] (.con (.int 0)),
  .setA 19 (.var 0) [116, 117, 114, 110] (.con (.int 0))]
/-- Hand.held (k40) -/
def b_Hand_held : List DS := [
  .ret (.ifx (.cmp .eq (.att 19 (.var 0) [109, 97, 110, 121]) (.con (.int 0))) (.con .non) (.tup [.att 19 (.var 0) [107, 105, 110, 100], .att 19 (.var 0) [109, 97, 110, 121], .att 19 (.var 0) [116, 117, 114, 110]]))]
/-- Hand.hold (k40) -/
def b_Hand_hold : List DS := [
  .setA 19 (.var 0) [107, 105, 110, 100] (.var 1),
  .setA 19 (.var 0) [109, 97, 110, 121] (.var 2),
  .setA 19 (.var 0) [116, 117, 114, 110] (.var 3)]
/-- Hand.turn_on (k40) -/
def b_Hand_turn_on : List DS := [
  .ite (.cmp .gt (.att 19 (.var 0) [109, 97, 110, 121]) (.con (.int 0))) [.set 1 (.meth true 18 25 [116, 117, 114, 110, 115] (.att 17 (.att 19 (.var 0) [98, 97, 103]) [98, 111, 111, 107]) [.att 19 (.var 0) [107, 105, 110, 100]]),
  .setA 19 (.var 0) [116, 117, 114, 110] (.sub (.var 1) (.bin .mod (.bin .add (.bm .index (.var 1) [.att 19 (.var 0) [116, 117, 114, 110]]) (.con (.int 1))) (.bi .len [.var 1])))] []]
/-- Hand.take_up (k40) -/
def b_Hand_take_up : List DS := [
  .ite (.cmp .isN (.var 1) (.con .non)) [.retN] [],
  .setT [3, 4, 5] (.slc (.meth true 17 43 [112, 105, 108, 101] (.att 19 (.var 0) [98, 97, 103]) [.var 1]) none (some (.con (.int 3)))),
  .set 6 (.ifx (.cmp .isN (.var 2) (.con .non)) (.var 4) (.bin .fdiv (.bin .sub (.bin .add (.var 4) (.var 2)) (.con (.int 1))) (.var 2))),
  .expr (.meth true 17 47 [116, 97, 107, 101] (.att 19 (.var 0) [98, 97, 103]) [.var 1, .var 6]),
  .expr (.meth true 19 113 [104, 111, 108, 100] (.var 0) [.var 3, .var 6, .var 5])]
/-- Hand.lay_down (k40) -/
def b_Hand_lay_down : List DS := [
  .ite (.cmp .nin (.att 19 (.var 0) [116, 117, 114, 110]) (.meth true 18 25 [116, 117, 114, 110, 115] (.att 17 (.att 19 (.var 0) [98, 97, 103]) [98, 111, 111, 107]) [.att 19 (.var 0) [107, 105, 110, 100]])) [.retN] [],
  .set 3 (.meth true 17 35 [99, 101, 108, 108, 115, 95, 111, 102] (.att 19 (.var 0) [98, 97, 103]) [.att 19 (.var 0) [107, 105, 110, 100], .att 19 (.var 0) [116, 117, 114, 110], .var 1, .var 2]),
  .set 4 (.bi .setSorted [.lc false false ⟨[5], false⟩ .e [.var 3] (some (.cmp .inn (.var 5) (.att 17 (.att 19 (.var 0) [98, 97, 103]) [103, 114, 105, 100]))) (.sub (.att 17 (.att 19 (.var 0) [98, 97, 103]) [103, 114, 105, 100]) (.var 5)) [5]]),
  .ite (.or (.cmp .gt (.bi .len [.var 4]) (.con (.int 1))) (.not (.meth true 17 36 [105, 115, 95, 102, 114, 101, 101] (.att 19 (.var 0) [98, 97, 103]) [.var 3, .ifx (.var 4) (.sub (.var 4) (.con (.int 0))) (.con .non)]))) [.retN] [],
  .par [6, 7, 8] [.att 19 (.var 0) [107, 105, 110, 100], .att 19 (.var 0) [109, 97, 110, 121], .att 19 (.var 0) [116, 117, 114, 110]],
  .setA 19 (.var 0) [109, 97, 110, 121] (.con (.int 0)),
  .ite (.var 4) [.set 9 (.meth true 17 40 [108, 105, 102, 116] (.att 19 (.var 0) [98, 97, 103]) [.sub (.var 4) (.con (.int 0))]),
  .expr (.meth true 19 113 [104, 111, 108, 100] (.var 0) [.att 16 (.var 9) [107, 105, 110, 100], .att 16 (.var 9) [109, 97, 110, 121], .att 16 (.var 9) [116, 117, 114, 110]])] [],
  .setA 17 (.att 19 (.var 0) [98, 97, 103]) [108, 97, 115, 116] (.bin .add (.att 17 (.att 19 (.var 0) [98, 97, 103]) [108, 97, 115, 116]) (.con (.int 1))),
  .expr (.meth true 17 39 [108, 97, 121] (.att 19 (.var 0) [98, 97, 103]) [.att 17 (.att 19 (.var 0) [98, 97, 103]) [108, 97, 115, 116], .make 16 32 [.var 6, .var 7, .var 8, .var 1, .var 2]])]
/-- Hand.press (k40) -/
def b_Hand_press : List DS := [
  .set 3 (.meth true 17 46 [97, 116] (.att 19 (.var 0) [98, 97, 103]) [.var 1, .var 2]),
  .ite (.cmp .eq (.att 19 (.var 0) [109, 97, 110, 121]) (.con (.int 0))) [.expr (.meth true 19 115 [116, 97, 107, 101, 95, 117, 112] (.var 0) [.var 3, .con .non])] [.ite (.and (.cmp .notN (.var 3) (.con .non)) (.cmp .eq (.att 16 (.sub (.att 17 (.att 19 (.var 0) [98, 97, 103]) [112, 105, 108, 101, 115]) (.var 3)) [107, 105, 110, 100]) (.att 19 (.var 0) [107, 105, 110, 100]))) [.setA 19 (.var 0) [109, 97, 110, 121] (.meth true 17 48 [112, 105, 108, 101, 95, 117, 112] (.att 19 (.var 0) [98, 97, 103]) [.var 3, .att 19 (.var 0) [107, 105, 110, 100], .att 19 (.var 0) [109, 97, 110, 121]])] [.expr (.meth false 19 116 [108, 97, 121, 95, 100, 111, 119, 110] (.var 0) [.var 1, .var 2])]]]
/-- Hand.press_one (k40) -/
def b_Hand_press_one : List DS := [
  .set 3 (.meth true 17 46 [97, 116] (.att 19 (.var 0) [98, 97, 103]) [.var 1, .var 2]),
  .ite (.cmp .eq (.att 19 (.var 0) [109, 97, 110, 121]) (.con (.int 0))) [.expr (.meth true 19 115 [116, 97, 107, 101, 95, 117, 112] (.var 0) [.var 3, .con (.int 2)])] [.ite (.and (.cmp .notN (.var 3) (.con .non)) (.cmp .eq (.att 16 (.sub (.att 17 (.att 19 (.var 0) [98, 97, 103]) [112, 105, 108, 101, 115]) (.var 3)) [107, 105, 110, 100]) (.att 19 (.var 0) [107, 105, 110, 100]))) [.setA 19 (.var 0) [109, 97, 110, 121] (.bin .add (.bin .sub (.att 19 (.var 0) [109, 97, 110, 121]) (.con (.int 1))) (.meth true 17 48 [112, 105, 108, 101, 95, 117, 112] (.att 19 (.var 0) [98, 97, 103]) [.var 3, .att 19 (.var 0) [107, 105, 110, 100], .con (.int 1)]))] [.ite (.and (.cmp .isN (.var 3) (.con .non)) (.meth true 17 37 [102, 105, 116, 115] (.att 19 (.var 0) [98, 97, 103]) [.att 19 (.var 0) [107, 105, 110, 100], .att 19 (.var 0) [116, 117, 114, 110], .var 1, .var 2])) [.expr (.meth false 17 41 [112, 117, 116] (.att 19 (.var 0) [98, 97, 103]) [.att 19 (.var 0) [107, 105, 110, 100], .con (.int 1), .att 19 (.var 0) [116, 117, 114, 110], .var 1, .var 2]),
  .setA 19 (.var 0) [109, 97, 110, 121] (.bin .sub (.att 19 (.var 0) [109, 97, 110, 121]) (.con (.int 1)))] []]]]
/-- Hand.spread (k40) -/
def b_Hand_spread : List DS := [
  .ite (.cmp .eq (.att 19 (.var 0) [109, 97, 110, 121]) (.con (.int 0))) [.rais 5] [],
  .ite (.or (.not (.var 1)) (.cmp .lt (.bi .setLen [.var 1]) (.bi .len [.var 1]))) [.rais 3] [],
  .set 2 (.bin .fdiv (.att 19 (.var 0) [109, 97, 110, 121]) (.bi .len [.var 1])),
  .loop false ⟨[3, 4], true⟩ .e [.var 1] [.expr (.meth true 17 46 [97, 116] (.att 19 (.var 0) [98, 97, 103]) [.var 3, .var 4])],
  .loop false ⟨[3, 4], true⟩ .e [.var 1] [.set 5 (.meth true 17 46 [97, 116] (.att 19 (.var 0) [98, 97, 103]) [.var 3, .var 4]),
  .ite (.and (.cmp .notN (.var 5) (.con .non)) (.cmp .eq (.att 16 (.sub (.att 17 (.att 19 (.var 0) [98, 97, 103]) [112, 105, 108, 101, 115]) (.var 5)) [107, 105, 110, 100]) (.att 19 (.var 0) [107, 105, 110, 100]))) [.setA 19 (.var 0) [109, 97, 110, 121] (.bin .add (.bin .sub (.att 19 (.var 0) [109, 97, 110, 121]) (.var 2)) (.meth true 17 48 [112, 105, 108, 101, 95, 117, 112] (.att 19 (.var 0) [98, 97, 103]) [.var 5, .att 19 (.var 0) [107, 105, 110, 100], .var 2]))] [.ite (.and (.cmp .gt (.var 2) (.con (.int 0))) (.meth true 17 37 [102, 105, 116, 115] (.att 19 (.var 0) [98, 97, 103]) [.att 19 (.var 0) [107, 105, 110, 100], .att 19 (.var 0) [116, 117, 114, 110], .var 3, .var 4])) [.expr (.meth false 17 41 [112, 117, 116] (.att 19 (.var 0) [98, 97, 103]) [.att 19 (.var 0) [107, 105, 110, 100], .var 2, .att 19 (.var 0) [116, 117, 114, 110], .var 3, .var 4]),
  .setA 19 (.var 0) [109, 97, 110, 121] (.bin .sub (.att 19 (.var 0) [109, 97, 110, 121]) (.var 2))] []]],
  .ret (.att 19 (.var 0) [109, 97, 110, 121])]
/-- _law_held (k40) -/
def b__law_held : List DS := [
  .ret (.ifx (.cmp .eq (.sub (.var 0) (.con (.str [109, 97, 110, 121]))) (.con (.int 0))) (.con .non) (.tup [.sub (.var 0) (.con (.str [107, 105, 110, 100])), .sub (.var 0) (.con (.str [109, 97, 110, 121])), .sub (.var 0) (.con (.str [116, 117, 114, 110]))]))]
/-- _law_onto (k40) -/
def b__law_onto : List DS := [
  .set 4 (.bi .min2 [.var 3, .bin .sub (.sub (.sub (.sub (.var 0) (.con (.str [107, 105, 110, 100, 115]))) (.sub (.var 1) (.con (.str [107, 105, 110, 100])))) (.con (.int 1))) (.sub (.sub (.sub (.var 0) (.con (.str [112, 105, 108, 101, 115]))) (.var 2)) (.con (.int 1)))]),
  .expr (.call true 67 [.var 0, .var 2, .var 4]),
  .setI (.var 1) (.con (.str [109, 97, 110, 121])) (.bin .sub (.sub (.var 1) (.con (.str [109, 97, 110, 121]))) (.var 4))]
/-- _law_lay (k40) -/
def b__law_lay : List DS := [
  .set 4 (.call true 64 [.var 0, .call true 62 [.var 0, .sub (.var 1) (.con (.str [107, 105, 110, 100])), .sub (.var 1) (.con (.str [116, 117, 114, 110])), .var 2, .var 3]]),
  .ite (.or (.cmp .gt (.bi .len [.var 4]) (.con (.int 1))) (.cmp .inn (.con (.int 0)) (.var 4))) [.retN] [],
  .par [5, 6, 7] [.sub (.var 1) (.con (.str [107, 105, 110, 100])), .sub (.var 1) (.con (.str [109, 97, 110, 121])), .sub (.var 1) (.con (.str [116, 117, 114, 110]))],
  .setI (.var 1) (.con (.str [109, 97, 110, 121])) (.con (.int 0)),
  .ite (.cmp .ne (.var 4) (.lst false [])) [.expr (.call true 121 [.var 0, .var 1, .sub (.var 4) (.con (.int 0)), .sub (.sub (.sub (.var 0) (.con (.str [112, 105, 108, 101, 115]))) (.sub (.var 4) (.con (.int 0)))) (.con (.int 1))])] [],
  .expr (.call true 66 [.var 0, .var 5, .var 6, .var 7, .var 2, .var 3])]
/-- _law_press (k40) -/
def b__law_press : List DS := [
  .set 5 (.call true 64 [.var 0, .lst false [.tup [.var 2, .var 3]]]),
  .ite (.cmp .inn (.con (.int 0)) (.var 5)) [.ret (.tup [.con (.str [114, 101, 102, 117, 115, 101, 100]), .con (.str [112, 108, 97, 99, 101])])] [],
  .ite (.cmp .eq (.sub (.var 1) (.con (.str [109, 97, 110, 121]))) (.con (.int 0))) [.ite (.cmp .ne (.var 5) (.lst false [])) [.set 6 (.sub (.sub (.sub (.var 0) (.con (.str [112, 105, 108, 101, 115]))) (.sub (.var 5) (.con (.int 0)))) (.con (.int 1))),
  .expr (.call true 121 [.var 0, .var 1, .sub (.var 5) (.con (.int 0)), .ifx (.var 4) (.bin .fdiv (.bin .add (.var 6) (.con (.int 1))) (.con (.int 2))) (.var 6)])] []] [.ite (.and (.cmp .ne (.var 5) (.lst false [])) (.cmp .eq (.sub (.sub (.sub (.var 0) (.con (.str [112, 105, 108, 101, 115]))) (.sub (.var 5) (.con (.int 0)))) (.con (.int 0))) (.sub (.var 1) (.con (.str [107, 105, 110, 100]))))) [.expr (.call true 122 [.var 0, .var 1, .sub (.var 5) (.con (.int 0)), .ifx (.var 4) (.con (.int 1)) (.sub (.var 1) (.con (.str [109, 97, 110, 121])))])] [.ite (.not (.var 4)) [.expr (.call true 123 [.var 0, .var 1, .var 2, .var 3])] [.ite (.and (.cmp .eq (.var 5) (.lst false [])) (.call true 65 [.var 0, .sub (.var 1) (.con (.str [107, 105, 110, 100])), .sub (.var 1) (.con (.str [116, 117, 114, 110])), .var 2, .var 3, .con .non])) [.expr (.call true 66 [.var 0, .sub (.var 1) (.con (.str [107, 105, 110, 100])), .con (.int 1), .sub (.var 1) (.con (.str [116, 117, 114, 110])), .var 2, .var 3]),
  .setI (.var 1) (.con (.str [109, 97, 110, 121])) (.bin .sub (.sub (.var 1) (.con (.str [109, 97, 110, 121]))) (.con (.int 1)))] []]]],
  .ret (.con .non)]
/-- _law_spread (k40) -/
def b__law_spread : List DS := [
  .ite (.cmp .eq (.sub (.var 1) (.con (.str [109, 97, 110, 121]))) (.con (.int 0))) [.ret (.tup [.con (.str [114, 101, 102, 117, 115, 101, 100]), .con (.str [112, 105, 108, 101])])] [],
  .ite (.or (.cmp .eq (.var 2) (.lst false [])) (.cmp .lt (.bi .setLen [.var 2]) (.bi .len [.var 2]))) [.ret (.tup [.con (.str [114, 101, 102, 117, 115, 101, 100]), .con (.str [110, 117, 109, 98, 101, 114])])] [],
  .ite (.cmp .ne (.lc false false ⟨[3], false⟩ .e [.var 2] (some (.cmp .inn (.con (.int 0)) (.call true 64 [.var 0, .lst false [.var 3]]))) (.var 3) [3]) (.lst false [])) [.ret (.tup [.con (.str [114, 101, 102, 117, 115, 101, 100]), .con (.str [112, 108, 97, 99, 101])])] [],
  .set 4 (.bin .fdiv (.sub (.var 1) (.con (.str [109, 97, 110, 121]))) (.bi .len [.var 2])),
  .loop false ⟨[5, 6], true⟩ .e [.var 2] [.set 7 (.call true 64 [.var 0, .lst false [.tup [.var 5, .var 6]]]),
  .ite (.and (.cmp .ne (.var 7) (.lst false [])) (.cmp .eq (.sub (.sub (.sub (.var 0) (.con (.str [112, 105, 108, 101, 115]))) (.sub (.var 7) (.con (.int 0)))) (.con (.int 0))) (.sub (.var 1) (.con (.str [107, 105, 110, 100]))))) [.expr (.call true 122 [.var 0, .var 1, .sub (.var 7) (.con (.int 0)), .var 4])] [.ite (.and (.cmp .gt (.var 4) (.con (.int 0))) (.call true 65 [.var 0, .sub (.var 1) (.con (.str [107, 105, 110, 100])), .sub (.var 1) (.con (.str [116, 117, 114, 110])), .var 5, .var 6, .con .non])) [.expr (.call true 66 [.var 0, .sub (.var 1) (.con (.str [107, 105, 110, 100])), .var 4, .sub (.var 1) (.con (.str [116, 117, 114, 110])), .var 5, .var 6]),
  .setI (.var 1) (.con (.str [109, 97, 110, 121])) (.bin .sub (.sub (.var 1) (.con (.str [109, 97, 110, 121]))) (.var 4))] []]],
  .ret (.sub (.var 1) (.con (.str [109, 97, 110, 121])))]
/-- _law_turn_on (k40) -/
def b__law_turn_on : List DS := [
  .ite (.cmp .gt (.sub (.var 1) (.con (.str [109, 97, 110, 121]))) (.con (.int 0))) [.set 2 (.call true 63 [.var 0, .sub (.var 1) (.con (.str [107, 105, 110, 100]))]),
  .setI (.var 1) (.con (.str [116, 117, 114, 110])) (.sub (.var 2) (.bin .mod (.bin .add (.bm .index (.var 2) [.sub (.var 1) (.con (.str [116, 117, 114, 110]))]) (.con (.int 1))) (.bi .len [.var 2])))] []]
/-- _law_told (k40) -/
def b__law_told_7 : List DS := [
  .set 3 (.con .non),
  .set 4 (.con .non),
  .tryE [.ite (.cmp .eq (.var 1) (.con (.str [112, 114, 101, 115, 115]))) [.set 4 (.meth false 19 117 [112, 114, 101, 115, 115] (.var 0) [.sub (.var 2) (.con (.int 0)), .sub (.var 2) (.con (.int 1))])] [.ite (.cmp .eq (.var 1) (.con (.str [111, 110, 101]))) [.set 4 (.meth false 19 118 [112, 114, 101, 115, 115, 95, 111, 110, 101] (.var 0) [.sub (.var 2) (.con (.int 0)), .sub (.var 2) (.con (.int 1))])] [.set 4 (.ifx (.cmp .eq (.var 1) (.con (.str [116, 117, 114, 110]))) (.meth true 19 114 [116, 117, 114, 110, 95, 111, 110] (.var 0) []) (.meth false 19 119 [115, 112, 114, 101, 97, 100] (.var 0) [.var 2]))]]] (some 5) [.set 3 (.var 5)],
  .ret (.ifx (.cmp .isN (.var 3) (.con .non)) (.var 4) (.call true 11 [.var 3]))]
/-- _law_turn (k40) -/
def b__law_turn : List DS := [
  .set 5 (.call true 9 [.var 0, .var 1, .con (.int 12)]),
  .set 6 (.bin .sub (.call true 9 [.var 0, .var 1, .bin .add (.sub (.var 3) (.con (.str [114, 111, 119, 115]))) (.bi .int [.cmp .eq (.var 5) (.con (.int 0))])]) (.bi .int [.cmp .eq (.var 5) (.con (.int 1))])),
  .set 7 (.call true 9 [.var 0, .var 1, .sub (.var 3) (.con (.str [99, 111, 108, 117, 109, 110, 115]))]),
  .ite (.cmp .lt (.var 5) (.con (.int 8))) [.set 8 (.cmp .eq (.bin .mod (.var 5) (.con (.int 3))) (.con (.int 0))),
  .set 9 (.call true 124 [.var 3, .var 4, .var 6, .var 7, .var 8]),
  .ret (.cmp .eq (.call false 127 [.var 2, .ifx (.var 8) (.con (.str [111, 110, 101])) (.con (.str [112, 114, 101, 115, 115])), .tup [.var 6, .var 7]]) (.var 9))] [],
  .ite (.cmp .lt (.var 5) (.con (.int 10))) [.expr (.call true 126 [.var 3, .var 4]),
  .ret (.cmp .isN (.call false 127 [.var 2, .con (.str [116, 117, 114, 110]), .tup []]) (.con .non))] [],
  .set 10 (.lst true []),
  .loop false ⟨[11], false⟩ .rng1 [.call true 9 [.var 0, .var 1, .con (.int 6)]] [.set 12 (.call true 9 [.var 0, .var 1, .bin .add (.sub (.var 3) (.con (.str [114, 111, 119, 115]))) (.bi .int [.and (.cmp .eq (.var 5) (.con (.int 11))) (.cmp .eq (.var 11) (.con (.int 4)))])]),
  .expr (.bm .append (.var 10) [.tup [.var 12, .call true 9 [.var 0, .var 1, .sub (.var 3) (.con (.str [99, 111, 108, 117, 109, 110, 115]))]]])],
  .ret (.cmp .eq (.call false 127 [.var 2, .con (.str [115, 112, 114, 101, 97, 100]), .var 10]) (.call true 125 [.var 3, .var 4, .var 10]))]
/-- law (k40) -/
def b_law_11 : List DS := [
  .set 1 (.lst true []),
  .set 2 (.call true 59 [.var 0, .var 1]),
  .setT [3, 4] (.call false 83 [.var 0, .var 1, .var 2, .call true 60 [.var 2], .con (.int 5)]),
  .set 5 (.mkd (.meth true 17 53 [99, 111, 117, 110, 116, 115] (.var 3) [])),
  .set 6 (.make 19 111 [.var 3]),
  .set 7 (.dct false [[107, 105, 110, 100], [109, 97, 110, 121], [116, 117, 114, 110]] [.con (.str []), .con (.int 0), .con (.int 0)]),
  .loop false ⟨[8], false⟩ .rng1 [.call true 9 [.var 0, .var 1, .con (.int 41)]] [.ite (.not (.call false 128 [.var 0, .var 1, .var 6, .var 4, .var 7])) [.ret (.con (.bl false))] [],
  .ite (.or (.cmp .ne (.meth true 19 112 [104, 101, 108, 100] (.var 6) []) (.call true 120 [.var 7])) (.not (.call true 72 [.var 3, .var 4]))) [.ret (.con (.bl false))] [],
  .set 9 (.mkd (.meth true 17 53 [99, 111, 117, 110, 116, 115] (.var 3) [])),
  .ite (.cmp .notN (.meth true 19 112 [104, 101, 108, 100] (.var 6) []) (.con .non)) [.setI (.var 9) (.sub (.meth true 19 112 [104, 101, 108, 100] (.var 6) []) (.con (.int 0))) (.bin .add (.bm .get (.var 9) [.sub (.meth true 19 112 [104, 101, 108, 100] (.var 6) []) (.con (.int 0)), .con (.int 0)]) (.sub (.meth true 19 112 [104, 101, 108, 100] (.var 6) []) (.con (.int 1))))] [],
  .ite (.cmp .ne (.var 9) (.var 5)) [.ret (.con (.bl false))] []],
  .ret (.con (.bl true))]
/-- _law_crowded (k41) -/
def b__law_crowded : List DS := [
  .set 4 (.bin .add (.bi .sum [.lc false false ⟨[5, 6], true⟩ .e [.meth true 17 53 [99, 111, 117, 110, 116, 115] (.var 0) []] none (.var 6) [5, 6]]) (.sub (.meth true 19 112 [104, 101, 108, 100] (.var 1) []) (.con (.int 1)))),
  .set 7 (.cmp .eq (.sub (.meth true 17 43 [112, 105, 108, 101] (.var 0) [.meth true 17 46 [97, 116] (.var 0) [.sub (.var 3) (.con (.int 0)), .sub (.var 3) (.con (.int 1))]]) (.con (.int 0))) (.var 2)),
  .set 6 (.bi .len [.meth true 17 45 [110, 117, 109, 98, 101, 114, 115] (.var 0) []]),
  .expr (.meth false 19 117 [112, 114, 101, 115, 115] (.var 1) [.sub (.var 3) (.con (.int 0)), .sub (.var 3) (.con (.int 1))]),
  .set 8 (.ifx (.cmp .isN (.meth true 19 112 [104, 101, 108, 100] (.var 1) []) (.con .non)) (.con (.int 0)) (.sub (.meth true 19 112 [104, 101, 108, 100] (.var 1) []) (.con (.int 1)))),
  .ite (.cmp .ne (.bin .add (.bi .sum [.lc false false ⟨[5, 6], true⟩ .e [.meth true 17 53 [99, 111, 117, 110, 116, 115] (.var 0) []] none (.var 6) [5, 6]]) (.var 8)) (.var 4)) [.ret (.con (.bl false))] [],
  .ret (.and (.cmp .eq (.bi .len [.meth true 17 45 [110, 117, 109, 98, 101, 114, 115] (.var 0) []]) (.bin .add (.var 6) (.bi .int [.not (.var 7)]))) (.or (.var 7) (.cmp .eq (.var 8) (.con (.int 0)))))]
/-- law (k41) -/
def b_law_12 : List DS := [
  .set 1 (.lst true []),
  .set 2 (.call true 59 [.var 0, .var 1]),
  .setT [3, 4] (.call false 83 [.var 0, .var 1, .var 2, .call true 60 [.var 2], .con (.int 5)]),
  .set 5 (.make 19 111 [.var 3]),
  .set 6 (.meth true 17 57 [112, 105, 99, 116, 117, 114, 101] (.var 3) []),
  .loop false ⟨[7], false⟩ .e [.call true 69 [.var 4]] [.setT [8, 9, 10, 11, 12] (.sub (.sub (.var 4) (.con (.str [112, 105, 108, 101, 115]))) (.var 7)),
  .loop false ⟨[13, 14], true⟩ .e [.call true 62 [.var 4, .var 8, .var 10, .var 11, .var 12]] [.expr (.meth false 19 117 [112, 114, 101, 115, 115] (.var 5) [.var 13, .var 14]),
  .ite (.or (.cmp .ne (.meth true 19 112 [104, 101, 108, 100] (.var 5) []) (.tup [.var 8, .var 9, .var 10])) (.cmp .ne (.meth true 17 52 [99, 111, 117, 110, 116] (.var 3) [.var 8]) (.bin .sub (.call true 71 [.var 4, .var 8]) (.var 9)))) [.ret (.con (.bl false))] [],
  .ite (.cmp .notN (.meth true 17 46 [97, 116] (.var 3) [.var 11, .var 12]) (.con .non)) [.ret (.call false 130 [.var 3, .var 5, .var 8, .tup [.var 11, .var 12]])] [],
  .expr (.meth false 19 117 [112, 114, 101, 115, 115] (.var 5) [.var 11, .var 12]),
  .ite (.or (.cmp .notN (.meth true 19 112 [104, 101, 108, 100] (.var 5) []) (.con .non)) (.cmp .ne (.meth true 17 57 [112, 105, 99, 116, 117, 114, 101] (.var 3) []) (.var 6))) [.ret (.con (.bl false))] []],
  .set 15 (.call true 68 [.var 4, .var 7]),
  .expr (.meth false 19 117 [112, 114, 101, 115, 115] (.var 5) [.sub (.var 15) (.con (.int 0)), .sub (.var 15) (.con (.int 1))]),
  .ite (.or (.cmp .ne (.meth false 19 119 [115, 112, 114, 101, 97, 100] (.var 5) [.lst false [.tup [.var 11, .var 12]]]) (.con (.int 0))) (.cmp .ne (.meth true 17 57 [112, 105, 99, 116, 117, 114, 101] (.var 3) []) (.var 6))) [.ret (.con (.bl false))] []],
  .par [16, 17] [.sub (.var 4) (.con (.str [114, 111, 119, 115])), .sub (.var 4) (.con (.str [99, 111, 108, 117, 109, 110, 115]))],
  .set 18 (.make 17 34 [.call true 60 [.var 2], .var 16, .var 17]),
  .set 5 (.make 19 111 [.var 18]),
  .set 9 (.bi .min2 [.con (.int 9), .bin .mul (.var 16) (.var 17)]),
  .expr (.meth false 17 41 [112, 117, 116] (.var 18) [.con (.str [99, 111, 105, 110]), .var 9, .con (.int 0), .con (.int 0), .con (.int 0)]),
  .expr (.meth false 19 117 [112, 114, 101, 115, 115] (.var 5) [.con (.int 0), .con (.int 0)]),
  .loop false ⟨[19], false⟩ .rng1 [.var 9] [.expr (.meth false 19 118 [112, 114, 101, 115, 115, 95, 111, 110, 101] (.var 5) [.bin .fdiv (.var 19) (.var 17), .bin .sub (.var 19) (.bin .mul (.bin .fdiv (.var 19) (.var 17)) (.var 17))])],
  .ite (.or (.cmp .notN (.meth true 19 112 [104, 101, 108, 100] (.var 5) []) (.con .non)) (.cmp .ne (.lc false false ⟨[20], false⟩ .e [.meth true 17 57 [112, 105, 99, 116, 117, 114, 101] (.var 18) []] none (.sub (.var 20) (.con (.int 1))) [20]) (.bin .mul (.lst false [.con (.int 1)]) (.var 9)))) [.ret (.con (.bl false))] [],
  .loop false ⟨[19], false⟩ .rng1 [.var 9] [.expr (.meth false 19 117 [112, 114, 101, 115, 115] (.var 5) [.bin .fdiv (.var 19) (.var 17), .bin .sub (.var 19) (.bin .mul (.bin .fdiv (.var 19) (.var 17)) (.var 17))]),
  .ite (.cmp .ne (.sub (.meth true 19 112 [104, 101, 108, 100] (.var 5) []) (.con (.int 1))) (.con (.int 1))) [.ret (.con (.bl false))] [],
  .expr (.meth false 19 118 [112, 114, 101, 115, 115, 95, 111, 110, 101] (.var 5) [.con (.int 0), .con (.int 0)])],
  .ret (.and (.cmp .isN (.meth true 19 112 [104, 101, 108, 100] (.var 5) []) (.con .non)) (.cmp .eq (.meth true 17 57 [112, 105, 99, 116, 117, 114, 101] (.var 18) []) (.lst false [.tup [.con (.str [99, 111, 105, 110]), .var 9, .con (.int 0), .con (.int 0), .con (.int 0)]])))]
/-- look_packing (k50) -/
def b_look_packing : List DS := [
  .ite (.or (.cmp .gt (.bi .len [.var 0]) (.var 3)) (.or (.not (.chain .le .le (.con (.int 1)) (.var 1) (.con (.int 4)))) (.not (.chain .le .le (.con (.int 1)) (.var 2) (.con (.int 4)))))) [.rais 3] []]
/-- spots (k50) -/
def b_spots : List DS := [
  .set 4 (.lst true []),
  .loop false ⟨[5], false⟩ .rng1 [.var 1] [.loop false ⟨[6], false⟩ .rng1 [.var 2] [.loop false ⟨[7], false⟩ .e [.ifx (.var 3) (.call true 5 [.var 0]) (.lst false [.con (.int 0)])] [.set 8 (.lc false false ⟨[9, 10], true⟩ .e [.call true 3 [.call true 2 [.var 0, .var 7]]] none (.tup [.bin .add (.var 5) (.var 9), .bin .add (.var 6) (.var 10)]) [9, 10]),
  .ite (.bi .all [.lc false false ⟨[9, 10], true⟩ .e [.var 8] none (.and (.cmp .lt (.var 9) (.var 1)) (.cmp .lt (.var 10) (.var 2))) [9, 10]]) [.expr (.bm .append (.var 4) [.tup [.var 5, .var 6, .var 7, .var 8]])] []]]],
  .ret (.var 4)]
/-- laid (k50) -/
def b_laid : List DS := [
  .ite (.not (.var 0)) [.ret (.lst false [])] [],
  .loop false ⟨[2, 3, 4, 5], true⟩ .e [.sub (.var 0) (.con (.int 0))] [.ite (.not (.bi .any [.lc false false ⟨[6], false⟩ .e [.var 5] none (.cmp .inn (.var 6) (.var 1)) [6]])) [.set 7 (.bm .dcopy (.var 1) []),
  .loop false ⟨[6], false⟩ .e [.var 5] [.setI (.var 7) (.var 6) (.con (.bl true))],
  .set 8 (.call true 134 [.slc (.var 0) (some (.con (.int 1))) none, .var 7]),
  .ite (.cmp .notN (.var 8) (.con .non)) [.ret (.bin .add (.lst false [.tup [.var 4, .var 2, .var 3]]) (.var 8))] []] []],
  .ret (.con .non)]
/-- packing (k50) -/
def b_packing : List DS := [
  .expr (.call true 132 [.var 0, .var 1, .var 2, .con (.int 5)]),
  .set 4 (.lc false false ⟨[5], false⟩ .e [.var 0] none (.call true 133 [.var 5, .var 1, .var 2, .var 3]) [5]),
  .ite (.cmp .gt (.bi .sum [.lc false false ⟨[5], false⟩ .e [.var 0] none (.bi .len [.call true 3 [.var 5]]) [5]]) (.bin .mul (.var 1) (.var 2))) [.ret (.con .non)] [],
  .ret (.call true 134 [.var 4, .dct true [] []])]
/-- count_ways (k50) -/
def b_count_ways : List DS := [
  .ite (.not (.var 0)) [.ret (.con (.int 1))] [],
  .set 2 (.con (.int 0)),
  .loop false ⟨[3, 4, 5, 6], true⟩ .e [.sub (.var 0) (.con (.int 0))] [.ite (.not (.bi .any [.lc false false ⟨[7], false⟩ .e [.var 6] none (.cmp .inn (.var 7) (.var 1)) [7]])) [.set 8 (.bm .dcopy (.var 1) []),
  .loop false ⟨[7], false⟩ .e [.var 6] [.setI (.var 8) (.var 7) (.con (.bl true))],
  .set 2 (.bin .add (.var 2) (.call true 136 [.slc (.var 0) (some (.con (.int 1))) none, .var 8]))] []],
  .ret (.var 2)]
/-- ways (k50) -/
def b_ways : List DS := [
  .expr (.call true 132 [.var 0, .var 1, .var 2, .con (.int 4)]),
  .ret (.call true 136 [.lc false false ⟨[4], false⟩ .e [.var 0] none (.call true 133 [.var 4, .var 1, .var 2, .var 3]) [4], .dct false [] []])]
/-- _law_told (k50) -/
def b__law_told_8 : List DS := [
  .set 5 (.con .non),
  .set 6 (.con .non),
  .tryE [.set 6 (.ifx (.cmp .eq (.var 0) (.con (.int 0))) (.call true 135 [.var 1, .var 2, .var 3, .var 4]) (.call true 137 [.var 1, .var 2, .var 3, .var 4]))] (some 7) [.set 5 (.var 7)],
  .ret (.ifx (.cmp .isN (.var 5) (.con .non)) (.var 6) (.call true 11 [.var 5]))]
/-- _law_ways (k50) -/
def b__law_ways : List DS := [
  .set 4 (.lst true [.tup [.lst false [], .lst false []]]),
  .loop false ⟨[5], false⟩ .e [.var 0] [.set 6 (.lst true []),
  .loop true ⟨[7, 8], true⟩ .e [.var 4] [.loop false ⟨[9], false⟩ .rng1 [.var 1] [.loop false ⟨[10], false⟩ .rng1 [.var 2] [.loop false ⟨[11], false⟩ .e [.ifx (.var 3) (.call true 15 [.var 5]) (.lst false [.con (.int 0)])] [.set 12 (.lc false false ⟨[13, 14], true⟩ .e [.call true 13 [.var 5, .var 11]] none (.tup [.bin .add (.var 9) (.var 13), .bin .add (.var 10) (.var 14)]) [13, 14]),
  .set 15 (.bi .all [.lc false false ⟨[13, 14], true⟩ .e [.var 12] none (.and (.cmp .lt (.var 13) (.var 1)) (.cmp .lt (.var 14) (.var 2))) [13, 14]]),
  .ite (.and (.var 15) (.cmp .eq (.lc false false ⟨[16], false⟩ .e [.var 12] (some (.cmp .inn (.var 16) (.var 8))) (.var 16) [16]) (.lst false []))) [.expr (.bm .append (.var 6) [.tup [.bin .add (.var 7) (.lst false [.tup [.var 9, .var 10, .var 11]]), .bin .add (.var 8) (.var 12)]])] []]]]],
  .set 4 (.var 6)],
  .ret (.lc false true ⟨[7, 8], true⟩ .e [.var 4] none (.var 7) [7, 8])]
/-- law (k50) -/
def b_law_13 : List DS := [
  .set 1 (.lst true []),
  .set 2 (.lc false false ⟨[3], false⟩ .rng1 [.call true 9 [.var 0, .var 1, .con (.int 4)]] none (.call true 12 [.var 0, .var 1, .con (.int 3)]) [3]),
  .par [4, 5] [.bin .add (.con (.int 1)) (.call true 9 [.var 0, .var 1, .con (.int 4)]), .bin .add (.con (.int 1)) (.call true 9 [.var 0, .var 1, .con (.int 3)])],
  .set 6 (.cmp .eq (.call true 9 [.var 0, .var 1, .con (.int 2)]) (.con (.int 0))),
  .set 7 (.call true 139 [.var 2, .var 4, .var 5, .var 6]),
  .set 8 (.con .non),
  .ite (.cmp .ne (.var 7) (.lst false [])) [.set 8 (.lc false false ⟨[9, 10, 11], true⟩ .e [.bi .min1 [.var 7]] none (.tup [.var 11, .var 9, .var 10]) [9, 10, 11])] [],
  .ite (.cmp .ne (.call true 138 [.con (.int 0), .var 2, .var 4, .var 5, .var 6]) (.var 8)) [.ret (.con (.bl false))] [],
  .ite (.cmp .ne (.call true 138 [.con (.int 1), .var 2, .var 4, .var 5, .var 6]) (.bi .len [.var 7])) [.ret (.con (.bl false))] [],
  .set 12 (.sub (.lst false [.bin .mul (.lst false [.tup [.con (.str [35])]]) (.con (.int 5)), .bin .mul (.lst false [.tup [.con (.str [35])]]) (.con (.int 6))]) (.call true 9 [.var 0, .var 1, .con (.int 2)])),
  .set 13 (.lst false [.call true 138 [.con (.int 1), .bin .mul (.lst false [.tup [.con (.str [35])]]) (.con (.int 5)), .con (.int 1), .con (.int 1), .con (.bl true)], .call true 138 [.con (.int 0), .bin .mul (.lst false [.tup [.con (.str [35])]]) (.con (.int 6)), .con (.int 1), .con (.int 1), .con (.bl true)]]),
  .set 13 (.bin .add (.bin .add (.var 13) (.lc false false ⟨[14], false⟩ .rng1 [.con (.int 2)] none (.call true 138 [.var 14, .lst false [], .con (.int 0), .con (.int 5), .con (.bl true)]) [14])) (.lst false [.call true 138 [.con (.int 0), .var 12, .con (.int 4), .con (.int 5), .con (.bl true)]])),
  .ite (.cmp .ne (.var 13) (.bin .mul (.lst false [.tup [.con (.str [114, 101, 102, 117, 115, 101, 100]), .con (.str [110, 117, 109, 98, 101, 114])]]) (.con (.int 5)))) [.ret (.con (.bl false))] [],
  .ret (.cmp .eq (.lc false false ⟨[14], false⟩ .rng1 [.con (.int 2)] none (.call true 138 [.var 14, .lst false [.tup [.con (.str [35])], .tup [.con (.str [46, 46])]], .con (.int 2), .con (.int 2), .con (.bl true)]) [14]) (.bin .mul (.lst false [.tup [.con (.str [114, 101, 102, 117, 115, 101, 100]), .con (.str [115, 104, 97, 112, 101])]]) (.con (.int 2))))]
/-- law (k51) -/
def b_law_14 : List DS := [
  .set 1 (.lst true []),
  .set 2 (.lc false false ⟨[3], false⟩ .rng1 [.bin .add (.con (.int 1)) (.call true 9 [.var 0, .var 1, .con (.int 3)])] none (.call true 12 [.var 0, .var 1, .con (.int 3)]) [3]),
  .par [4, 5] [.bin .add (.con (.int 1)) (.call true 9 [.var 0, .var 1, .con (.int 4)]), .bin .add (.con (.int 1)) (.call true 9 [.var 0, .var 1, .con (.int 4)])],
  .set 6 (.cmp .eq (.call true 9 [.var 0, .var 1, .con (.int 2)]) (.con (.int 0))),
  .set 7 (.call true 135 [.var 2, .var 4, .var 5, .var 6]),
  .ite (.cmp .ne (.cmp .isN (.var 7) (.con .non)) (.cmp .eq (.call true 137 [.var 2, .var 4, .var 5, .var 6]) (.con (.int 0)))) [.ret (.con (.bl false))] [],
  .set 8 (.make 18 19 []),
  .loop false ⟨[3], false⟩ .rng1 [.bi .len [.var 2]] [.expr (.meth true 18 20 [97, 100, 100] (.var 8) [.sub (.con (.str [97, 98, 99, 100])) (.var 3), .sub (.var 2) (.var 3), .con (.int 1), .var 6, .con (.int 1), .lst false []])],
  .set 9 (.make 17 34 [.var 8, .var 4, .var 5]),
  .set 10 (.bi .sum [.lc false false ⟨[11], false⟩ .e [.var 2] none (.bi .len [.call true 3 [.var 11]]) [11]]),
  .ite (.cmp .notN (.var 7) (.con .non)) [.ite (.or (.cmp .ne (.bi .len [.var 7]) (.bi .len [.var 2])) (.cmp .gt (.var 10) (.bin .mul (.var 4) (.var 5)))) [.ret (.con (.bl false))] [],
  .loop false ⟨[3], false⟩ .rng1 [.bi .len [.var 2]] [.setT [12, 13, 14] (.sub (.var 7) (.var 3)),
  .ite (.or (.not (.meth true 17 37 [102, 105, 116, 115] (.var 9) [.sub (.con (.str [97, 98, 99, 100])) (.var 3), .var 12, .var 13, .var 14])) (.cmp .ne (.meth false 17 41 [112, 117, 116] (.var 9) [.sub (.con (.str [97, 98, 99, 100])) (.var 3), .con (.int 1), .var 12, .var 13, .var 14]) (.bin .add (.var 3) (.con (.int 1))))) [.ret (.con (.bl false))] []],
  .ite (.or (.cmp .ne (.meth true 17 55 [102, 114, 101, 101] (.var 9) []) (.bin .sub (.bin .mul (.var 4) (.var 5)) (.var 10))) (.cmp .ne (.meth true 17 54 [119, 101, 105, 103, 104, 116] (.var 9) []) (.bi .len [.var 2]))) [.ret (.con (.bl false))] []] [],
  .set 15 (.make 17 34 [.var 8, .var 4, .var 5]),
  .set 16 (.bi .sum [.lc false false ⟨[3], false⟩ .rng1 [.bi .len [.var 2]] none (.call false 89 [.var 15, .sub (.con (.str [97, 98, 99, 100])) (.var 3), .con (.int 1)]) [3]]),
  .ret (.or (.cmp .gt (.var 16) (.con (.int 0))) (.cmp .notN (.var 7) (.con .non)))]
/-- law (k52) -/
def b_law_15 : List DS := [
  .set 1 (.lst true []),
  .set 2 (.lc false false ⟨[3], false⟩ .rng1 [.bin .add (.con (.int 1)) (.call true 9 [.var 0, .var 1, .con (.int 3)])] none (.call true 12 [.var 0, .var 1, .con (.int 3)]) [3]),
  .par [4, 5] [.bin .add (.con (.int 1)) (.call true 9 [.var 0, .var 1, .con (.int 4)]), .bin .add (.con (.int 1)) (.call true 9 [.var 0, .var 1, .con (.int 4)])],
  .set 6 (.lc false false ⟨[7], false⟩ .e [.tup [.con (.bl true), .con (.bl false)]] none (.call true 137 [.var 2, .var 4, .var 5, .var 7]) [7]),
  .ite (.or (.cmp .ne (.call true 137 [.rev (.var 2), .var 4, .var 5, .con (.bl true)]) (.sub (.var 6) (.con (.int 0)))) (.cmp .ne (.call true 137 [.rev (.var 2), .var 4, .var 5, .con (.bl false)]) (.sub (.var 6) (.con (.int 1))))) [.ret (.con (.bl false))] [],
  .ite (.or (.cmp .lt (.sub (.var 6) (.con (.int 0))) (.sub (.var 6) (.con (.int 1)))) (.cmp .ne (.cmp .isN (.call true 135 [.var 2, .var 4, .var 5, .con (.bl false)]) (.con .non)) (.cmp .eq (.sub (.var 6) (.con (.int 1))) (.con (.int 0))))) [.ret (.con (.bl false))] [],
  .set 8 (.lc false false ⟨[9], false⟩ .e [.var 2] none (.call true 2 [.var 9, .con (.int 1)]) [9]),
  .ite (.or (.cmp .ne (.call true 137 [.var 8, .var 5, .var 4, .con (.bl false)]) (.sub (.var 6) (.con (.int 1)))) (.cmp .ne (.call true 137 [.var 2, .var 5, .var 4, .con (.bl true)]) (.sub (.var 6) (.con (.int 0))))) [.ret (.con (.bl false))] [],
  .ite (.and (.cmp .lt (.var 4) (.con (.int 4))) (.cmp .lt (.call true 137 [.var 2, .bin .add (.var 4) (.con (.int 1)), .var 5, .con (.bl true)]) (.sub (.var 6) (.con (.int 0))))) [.ret (.con (.bl false))] [],
  .set 10 (.bin .add (.con (.int 1)) (.call true 9 [.var 0, .var 1, .con (.int 4)])),
  .set 11 (.con (.int 1)),
  .loop false ⟨[3], false⟩ .rng1 [.var 10] [.set 11 (.bin .mul (.var 11) (.bin .sub (.bin .mul (.var 4) (.var 5)) (.var 3)))],
  .ret (.and (.cmp .eq (.call true 137 [.bin .mul (.lst false [.tup [.con (.str [35])]]) (.var 10), .var 4, .var 5, .con (.bl true)]) (.bi .max2 [.con (.int 0), .var 11])) (.cmp .eq (.call true 137 [.lst false [], .var 4, .var 5, .con (.bl true)]) (.con (.int 1))))]
/-- look_recipe (k60) -/
def b_look_recipe : List DS := [
  .ite (.or (.not (.chain .le .le (.con (.int 1)) (.bi .len [.var 1]) (.con (.int 9)))) (.not (.chain .le .le (.con (.int 1)) (.bi .len [.var 2]) (.con (.int 9))))) [.rais 3] [],
  .loop false ⟨[3], false⟩ .e [.tup [.var 1, .var 2]] [.loop false ⟨[4, 5], true⟩ .e [.var 3] [.expr (.meth true 18 21 [110, 101, 101, 100] (.var 0) [.var 4]),
  .ite (.not (.chain .le .le (.con (.int 1)) (.var 5) (.con (.int 99)))) [.rais 3] []],
  .ite (.cmp .lt (.bi .setLen [.lc false false ⟨[4, 5], true⟩ .e [.var 3] none (.var 4) [4, 5]]) (.bi .len [.var 3])) [.rais 2] []]]
/-- most_times (k60) -/
def b_most_times : List DS := [
  .expr (.call true 143 [.att 17 (.var 0) [98, 111, 111, 107], .var 1, .var 2]),
  .ret (.bi .min1 [.lc false false ⟨[3, 4], true⟩ .e [.var 1] none (.bin .fdiv (.meth true 17 52 [99, 111, 117, 110, 116] (.var 0) [.var 3]) (.var 4)) [3, 4]])]
/-- craft_once (k60) -/
def b_craft_once : List DS := [
  .set 3 (.meth false 17 86 [116, 119, 105, 110] (.var 0) []),
  .set 4 (.bi .sum [.lc false false ⟨[5, 6], true⟩ .e [.var 1] none (.call true 90 [.var 3, .var 5, .var 6]) [5, 6]]),
  .ite (.or (.cmp .gt (.var 4) (.con (.int 0))) (.cmp .gt (.bi .sum [.lc false false ⟨[5, 6], true⟩ .e [.var 2] none (.call false 89 [.var 3, .var 5, .var 6]) [5, 6]]) (.con (.int 0)))) [.ret (.con (.bl false))] [],
  .expr (.meth true 17 58 [98, 101, 99, 111, 109, 101] (.var 0) [.var 3]),
  .ret (.con (.bl true))]
/-- craft (k60) -/
def b_craft : List DS := [
  .expr (.call true 143 [.att 17 (.var 0) [98, 111, 111, 107], .var 1, .var 2]),
  .ite (.cmp .lt (.var 3) (.con (.int 0))) [.rais 3] [],
  .loop false ⟨[4], false⟩ .rng1 [.var 3] [.ite (.not (.call false 145 [.var 0, .var 1, .var 2])) [.ret (.var 4)] []],
  .ret (.var 3)]
/-- _law_recipe (k60) -/
def b__law_recipe : List DS := [
  .set 2 (.lst true []),
  .loop false ⟨[3], false⟩ .rng1 [.con (.int 2)] [.set 4 (.lst true []),
  .loop false ⟨[5], false⟩ .e [.lst false [.con (.str [97, 120]), .con (.str [98, 111, 119]), .con (.str [99, 111, 105, 110]), .con (.str [103, 101, 109])]] [.ite (.cmp .eq (.call true 9 [.var 0, .var 1, .con (.int 3)]) (.con (.int 0))) [.expr (.bm .append (.var 4) [.tup [.var 5, .bin .add (.con (.int 1)) (.call true 9 [.var 0, .var 1, .con (.int 3)])]])] []],
  .expr (.bm .append (.var 2) [.ifx (.cmp .ne (.var 4) (.lst false [])) (.var 4) (.lst false [.tup [.con (.str [99, 111, 105, 110]), .bin .add (.con (.int 1)) (.call true 9 [.var 0, .var 1, .con (.int 9)])]])])],
  .ret (.var 2)]
/-- _law_craft_once (k60) -/
def b__law_craft_once : List DS := [
  .set 3 (.call false 95 [.var 0]),
  .loop false ⟨[4, 5], true⟩ .e [.var 1] [.ite (.cmp .gt (.call true 94 [.var 3, .var 4, .var 5]) (.con (.int 0))) [.ret (.con .non)] []],
  .loop false ⟨[4, 5], true⟩ .e [.var 2] [.ite (.cmp .gt (.call true 93 [.var 3, .var 4, .var 5]) (.con (.int 0))) [.ret (.con .non)] []],
  .ret (.var 3)]
/-- _law_told (k60) -/
def b__law_told_9 : List DS := [
  .set 5 (.con .non),
  .set 6 (.con .non),
  .tryE [.set 6 (.ifx (.cmp .eq (.var 0) (.con (.int 0))) (.call false 146 [.var 1, .var 2, .var 3, .var 4]) (.call true 144 [.var 1, .var 2, .var 3]))] (some 7) [.set 5 (.var 7)],
  .ret (.ifx (.cmp .isN (.var 5) (.con .non)) (.var 6) (.call true 11 [.var 5]))]
/-- _law_bad (k60) -/
def b__law_bad : List DS := [
  .set 2 (.lst false [.tup [.lst false [], .lst false [.tup [.con (.str [97, 120]), .con (.int 1)]], .con (.str [110, 117, 109, 98, 101, 114])], .tup [.lst false [.tup [.con (.str [97, 120]), .con (.int 1)]], .lst false [], .con (.str [110, 117, 109, 98, 101, 114])], .tup [.lst false [.tup [.con (.str [110, 111, 110, 101]), .con (.int 0)]], .lst false [.tup [.con (.str [97, 120]), .con (.int 1)]], .con (.str [107, 105, 110, 100])]]),
  .set 2 (.bin .add (.var 2) (.lst false [.tup [.lst false [.tup [.con (.str [97, 120]), .con (.int 0)]], .lst false [.tup [.con (.str [110, 111, 110, 101]), .con (.int 1)]], .con (.str [110, 117, 109, 98, 101, 114])], .tup [.lst false [.tup [.con (.str [97, 120]), .con (.int 1)]], .lst false [.tup [.con (.str [97, 120]), .con (.int 100)]], .con (.str [110, 117, 109, 98, 101, 114])]])),
  .set 2 (.bin .add (.var 2) (.lst false [.tup [.lst false [.tup [.con (.str [97, 120]), .con (.int 1)], .tup [.con (.str [97, 120]), .con (.int 1)]], .lst false [.tup [.con (.str [97, 120]), .con (.int 0)]], .con (.str [107, 105, 110, 100])], .tup [.lst false [.tup [.con (.str [97, 120]), .con (.int 1)]], .lst false [.tup [.con (.str [98, 111, 119]), .con (.int 1)], .tup [.con (.str [98, 111, 119]), .con (.int 2)]], .con (.str [107, 105, 110, 100])]])),
  .ret (.call true 10 [.var 0, .var 1, .bin .add (.var 2) (.lst false [.tup [.bin .mul (.lst false [.tup [.con (.str [97, 120]), .con (.int 1)]]) (.con (.int 10)), .lst false [.tup [.con (.str [97, 120]), .con (.int 1)]], .con (.str [110, 117, 109, 98, 101, 114])]])])]
/-- law (k60) -/
def b_law_16 : List DS := [
  .set 1 (.lst true []),
  .set 2 (.call true 59 [.var 0, .var 1]),
  .setT [3, 4] (.call false 83 [.var 0, .var 1, .var 2, .call true 60 [.var 2], .con (.int 5)]),
  .loop false ⟨[5], false⟩ .rng1 [.call true 9 [.var 0, .var 1, .con (.int 9)]] [.setL [6, 7] (.call true 147 [.var 0, .var 1]),
  .set 8 (.call true 9 [.var 0, .var 1, .con (.int 4)]),
  .set 9 (.bi .min1 [.lc false false ⟨[10, 11], true⟩ .e [.var 6] none (.bin .fdiv (.call true 71 [.var 4, .var 10]) (.var 11)) [10, 11]]),
  .ite (.cmp .ne (.call false 149 [.con (.int 1), .var 3, .var 6, .var 7, .con (.int 0)]) (.var 9)) [.ret (.con (.bl false))] [],
  .set 12 (.con (.int 0)),
  .set 13 (.call false 148 [.var 4, .var 6, .var 7]),
  .whl (.and (.cmp .lt (.var 12) (.var 8)) (.cmp .notN (.var 13) (.con .non))) [.set 12 (.bin .add (.var 12) (.con (.int 1))),
  .set 4 (.var 13),
  .set 13 (.call false 148 [.var 4, .var 6, .var 7])],
  .ite (.or (.cmp .ne (.call false 149 [.con (.int 0), .var 3, .var 6, .var 7, .var 8]) (.var 12)) (.not (.call true 72 [.var 3, .var 4]))) [.ret (.con (.bl false))] []],
  .setT [6, 7, 14] (.call true 150 [.var 0, .var 1]),
  .ite (.cmp .ne (.lc false false ⟨[15], false⟩ .rng1 [.con (.int 2)] none (.call false 149 [.var 15, .var 3, .var 6, .var 7, .con (.int (-1))]) [15]) (.bin .mul (.lst false [.tup [.con (.str [114, 101, 102, 117, 115, 101, 100]), .var 14]]) (.con (.int 2)))) [.ret (.con (.bl false))] [],
  .ret (.and (.cmp .eq (.call false 149 [.con (.int 0), .var 3, .lst false [.tup [.con (.str [97, 120]), .con (.int 1)]], .lst false [.tup [.con (.str [98, 111, 119]), .con (.int 1)]], .con (.int (-1))]) (.tup [.con (.str [114, 101, 102, 117, 115, 101, 100]), .con (.str [110, 117, 109, 98, 101, 114])])) (.call true 72 [.var 3, .var 4]))]
/-- _law_whole (k61) -/
def b__law_whole : List DS := [
  .set 2 (.dct false [] []),
  .loop false ⟨[3], false⟩ .keysV [.var 1] [.setI (.var 2) (.var 3) (.bi .sum [.lc false false ⟨[4], false⟩ .e [.var 0] none (.meth true 17 52 [99, 111, 117, 110, 116] (.var 4) [.var 3]) [4]])],
  .ret (.var 2)]
/-- _law_turned (k61) -/
def b__law_turned : List DS := [
  .loop false ⟨[3, 4], true⟩ .e [.var 1] [.setI (.var 0) (.var 3) (.bin .add (.sub (.var 0) (.var 3)) (.bin .mul (.var 4) (.var 2)))]]
/-- law (k61) -/
def b_law_17 : List DS := [
  .set 1 (.lst true []),
  .set 2 (.call true 59 [.var 0, .var 1]),
  .set 3 (.call true 60 [.var 2]),
  .set 4 (.sub (.call false 83 [.var 0, .var 1, .var 2, .var 3, .con (.int 6)]) (.con (.int 0))),
  .set 5 (.lst false [.var 4, .make 17 34 [.var 3, .con (.int 4), .con (.int 4)]]),
  .set 6 (.call false 152 [.var 5, .var 2]),
  .loop false ⟨[7], false⟩ .rng1 [.call true 9 [.var 0, .var 1, .con (.int 11)]] [.setL [8, 9] (.call true 147 [.var 0, .var 1]),
  .set 10 (.sub (.var 5) (.call true 9 [.var 0, .var 1, .con (.int 2)])),
  .set 11 (.call true 144 [.var 10, .var 8, .var 9]),
  .set 12 (.call true 9 [.var 0, .var 1, .con (.int 5)]),
  .set 13 (.call false 146 [.var 10, .var 8, .var 9, .var 12]),
  .expr (.call true 153 [.var 6, .var 8, .bin .sub (.con (.int 0)) (.var 13)]),
  .expr (.call true 153 [.var 6, .var 9, .var 13]),
  .ite (.or (.not (.chain .le .le (.con (.int 0)) (.var 13) (.var 12))) (.or (.and (.cmp .gt (.var 13) (.con (.int 0))) (.cmp .eq (.var 11) (.con (.int 0)))) (.eqd true (.call true 152 [.var 5, .var 2]) (.var 6)))) [.ret (.con (.bl false))] [],
  .ite (.and (.cmp .gt (.var 13) (.con (.int 0))) (.cmp .eq (.call false 146 [.var 10, .var 9, .var 8, .con (.int 1)]) (.con (.int 1)))) [.expr (.call true 153 [.var 6, .var 9, .con (.int (-1))]),
  .expr (.call true 153 [.var 6, .var 8, .con (.int 1)]),
  .ite (.eqd true (.call true 152 [.var 5, .var 2]) (.var 6)) [.ret (.con (.bl false))] []] [],
  .ite (.cmp .eq (.call true 9 [.var 0, .var 1, .con (.int 3)]) (.con (.int 0))) [.expr (.call false 105 [.sub (.var 5) (.con (.int 0)), .sub (.var 5) (.con (.int 1))])] [],
  .ite (.cmp .eq (.call true 9 [.var 0, .var 1, .con (.int 3)]) (.con (.int 0))) [.expr (.call false 105 [.sub (.var 5) (.con (.int 1)), .sub (.var 5) (.con (.int 0))])] [],
  .ite (.eqd true (.call true 152 [.var 5, .var 2]) (.var 6)) [.ret (.con (.bl false))] []],
  .ret (.con (.bl true))]
/-- law (k62) -/
def b_law_18 : List DS := [
  .set 1 (.lst true []),
  .set 2 (.call true 59 [.var 0, .var 1]),
  .set 3 (.call true 60 [.var 2]),
  .setT [4, 5] (.call false 83 [.var 0, .var 1, .var 2, .var 3, .con (.int 5)]),
  .set 6 (.make 17 34 [.var 3, .sub (.var 5) (.con (.str [114, 111, 119, 115])), .sub (.var 5) (.con (.str [99, 111, 108, 117, 109, 110, 115]))]),
  .loop false ⟨[7], false⟩ .e [.keysL true (.sub (.var 5) (.con (.str [112, 105, 108, 101, 115])))] [.setT [8, 9, 10, 11, 12] (.sub (.sub (.var 5) (.con (.str [112, 105, 108, 101, 115]))) (.var 7)),
  .expr (.meth false 17 41 [112, 117, 116] (.var 6) [.var 8, .var 9, .var 10, .var 11, .var 12])],
  .loop false ⟨[13], false⟩ .rng1 [.con (.int 5)] [.setL [14, 15] (.call true 147 [.var 0, .var 1]),
  .set 16 (.call true 9 [.var 0, .var 1, .con (.int 6)]),
  .set 17 (.call true 144 [.var 4, .var 14, .var 15]),
  .set 18 (.call false 146 [.var 4, .var 14, .var 15, .var 16]),
  .ite (.or (.cmp .ne (.bi .sum [.lc false false ⟨[19], false⟩ .rng1 [.var 16] none (.call false 146 [.var 6, .var 14, .var 15, .con (.int 1)]) [19]]) (.var 18)) (.cmp .ne (.meth true 17 57 [112, 105, 99, 116, 117, 114, 101] (.var 4) []) (.meth true 17 57 [112, 105, 99, 116, 117, 114, 101] (.var 6) []))) [.ret (.con (.bl false))] [],
  .ite (.or (.and (.cmp .eq (.var 17) (.con (.int 0))) (.cmp .gt (.var 18) (.con (.int 0)))) (.or (.cmp .ne (.call false 146 [.var 4, .var 14, .var 15, .con (.int 0)]) (.con (.int 0))) (.cmp .ne (.meth true 17 57 [112, 105, 99, 116, 117, 114, 101] (.var 4) []) (.meth true 17 57 [112, 105, 99, 116, 117, 114, 101] (.var 6) [])))) [.ret (.con (.bl false))] [],
  .ite (.and (.cmp .lt (.var 18) (.var 16)) (.or (.cmp .ne (.call false 146 [.var 4, .var 14, .var 15, .con (.int 3)]) (.con (.int 0))) (.cmp .ne (.meth true 17 57 [112, 105, 99, 116, 117, 114, 101] (.var 4) []) (.meth true 17 57 [112, 105, 99, 116, 117, 114, 101] (.var 6) [])))) [.ret (.con (.bl false))] []],
  .ret (.con (.bl true))]
/-- Slots.__init__ (k70) -/
def b_Slots___init__ : List DS := [
  .setA 20 (.var 0) [98, 111, 111, 107] (.var 1),
  .setA 20 (.var 0) [116, 97, 103, 115] (.dct false [] []),
  .setA 20 (.var 0) [107, 105, 110, 100, 115] (.dct false [] []),
  .loop false ⟨[3, 4], true⟩ .e [.var 2] [.expr (.call true 18 [.var 3]),
  .expr (.call true 18 [.var 4]),
  .ite (.cmp .inn (.var 3) (.att 20 (.var 0) [116, 97, 103, 115])) [.rais 6] [],
  .setI (.att 20 (.var 0) [116, 97, 103, 115]) (.var 3) (.var 4)]]
/-- Slots.need (k70) -/
def b_Slots_need : List DS := [
  .ite (.cmp .nin (.var 1) (.att 20 (.var 0) [116, 97, 103, 115])) [.rais 6] []]
/-- Slots.names (k70) -/
def b_Slots_names : List DS := [
  .ret (.keysL false (.att 20 (.var 0) [116, 97, 103, 115]))]
/-- Slots.worn (k70) -/
def b_Slots_worn : List DS := [
  .expr (.meth true 20 157 [110, 101, 101, 100] (.var 0) [.var 1]),
  .ret (.bm .get (.att 20 (.var 0) [107, 105, 110, 100, 115]) [.var 1, .con .non])]
/-- Slots.wear (k70) -/
def b_Slots_wear : List DS := [
  .expr (.meth true 20 157 [110, 101, 101, 100] (.var 0) [.var 1]),
  .expr (.meth true 17 42 [110, 101, 101, 100] (.var 2) [.var 3]),
  .set 4 (.sub (.meth true 17 43 [112, 105, 108, 101] (.var 2) [.var 3]) (.con (.int 0))),
  .ite (.not (.meth true 18 27 [104, 97, 115, 95, 116, 97, 103] (.att 20 (.var 0) [98, 111, 111, 107]) [.var 4, .sub (.att 20 (.var 0) [116, 97, 103, 115]) (.var 1)])) [.rais 6] [],
  .set 5 (.meth false 17 86 [116, 119, 105, 110] (.var 2) []),
  .expr (.meth true 17 47 [116, 97, 107, 101] (.var 5) [.var 3, .con (.int 1)]),
  .set 6 (.bm .get (.att 20 (.var 0) [107, 105, 110, 100, 115]) [.var 1, .con .non]),
  .ite (.and (.cmp .notN (.var 6) (.con .non)) (.cmp .gt (.call false 89 [.var 5, .var 6, .con (.int 1)]) (.con (.int 0)))) [.ret (.con (.bl false))] [],
  .expr (.meth true 17 58 [98, 101, 99, 111, 109, 101] (.var 2) [.var 5]),
  .setI (.att 20 (.var 0) [107, 105, 110, 100, 115]) (.var 1) (.var 4),
  .ret (.con (.bl true))]
/-- Slots.doff (k70) -/
def b_Slots_doff : List DS := [
  .expr (.meth true 20 157 [110, 101, 101, 100] (.var 0) [.var 1]),
  .ite (.cmp .nin (.var 1) (.att 20 (.var 0) [107, 105, 110, 100, 115])) [.rais 5] [],
  .ite (.cmp .gt (.call false 89 [.var 2, .sub (.att 20 (.var 0) [107, 105, 110, 100, 115]) (.var 1), .con (.int 1)]) (.con (.int 0))) [.ret (.con (.bl false))] [],
  .expr (.bm .pop (.att 20 (.var 0) [107, 105, 110, 100, 115]) [.var 1]),
  .ret (.con (.bl true))]
/-- Slots.wear_first (k70) -/
def b_Slots_wear_first : List DS := [
  .expr (.meth true 17 42 [110, 101, 101, 100] (.var 1) [.var 2]),
  .set 3 (.sub (.meth true 17 43 [112, 105, 108, 101] (.var 1) [.var 2]) (.con (.int 0))),
  .set 4 (.lc false true ⟨[5], false⟩ .keys [.att 20 (.var 0) [116, 97, 103, 115]] (some (.meth true 18 27 [104, 97, 115, 95, 116, 97, 103] (.att 20 (.var 0) [98, 111, 111, 107]) [.var 3, .sub (.att 20 (.var 0) [116, 97, 103, 115]) (.var 5)])) (.var 5) [5]),
  .set 6 (.bin .add (.lc false false ⟨[5], false⟩ .e [.var 4] (some (.cmp .nin (.var 5) (.att 20 (.var 0) [107, 105, 110, 100, 115]))) (.var 5) [5]) (.var 4)),
  .ite (.or (.not (.var 6)) (.not (.meth false 20 160 [119, 101, 97, 114] (.var 0) [.sub (.var 6) (.con (.int 0)), .var 1, .var 2]))) [.ret (.con .non)] [],
  .ret (.sub (.var 6) (.con (.int 0)))]
/-- Slots.weight (k70) -/
def b_Slots_weight : List DS := [
  .ret (.bi .sum [.lc false true ⟨[1], false⟩ .vals [.att 20 (.var 0) [107, 105, 110, 100, 115]] none (.meth true 18 26 [119, 101, 105, 103, 104, 116] (.att 20 (.var 0) [98, 111, 111, 107]) [.var 1]) [1]])]
/-- _law_told (k70) -/
def b__law_told_10 : List DS := [
  .set 5 (.con .non),
  .set 6 (.con .non),
  .tryE [.ite (.cmp .eq (.var 2) (.con (.str [119, 101, 97, 114]))) [.set 6 (.meth false 20 160 [119, 101, 97, 114] (.var 0) [.var 3, .var 1, .var 4])] [.ite (.cmp .eq (.var 2) (.con (.str [100, 111, 102, 102]))) [.set 6 (.meth false 20 161 [100, 111, 102, 102] (.var 0) [.var 3, .var 1])] [.ite (.cmp .eq (.var 2) (.con (.str [102, 105, 114, 115, 116]))) [.set 6 (.meth false 20 162 [119, 101, 97, 114, 95, 102, 105, 114, 115, 116] (.var 0) [.var 1, .var 4])] [.set 6 (.ifx (.cmp .eq (.var 2) (.con (.str [110, 101, 119]))) (.cmp .isN (.make 20 156 [.var 1, .var 3]) (.con .non)) (.meth true 20 159 [119, 111, 114, 110] (.var 0) [.var 3]))]]]] (some 7) [.set 5 (.var 7)],
  .ret (.ifx (.cmp .isN (.var 5) (.con .non)) (.var 6) (.call true 11 [.var 5]))]
/-- _law_wear (k70) -/
def b__law_wear : List DS := [
  .set 3 (.sub (.var 0) (.con (.str [109, 111, 100, 101, 108]))),
  .ite (.cmp .nin (.var 1) (.sub (.var 0) (.con (.str [116, 97, 103, 115])))) [.ret (.tup [.con (.str [114, 101, 102, 117, 115, 101, 100]), .con (.str [115, 108, 111, 116])])] [],
  .ite (.cmp .nin (.var 2) (.sub (.var 3) (.con (.str [112, 105, 108, 101, 115])))) [.ret (.tup [.con (.str [114, 101, 102, 117, 115, 101, 100]), .con (.str [112, 105, 108, 101])])] [],
  .set 4 (.sub (.sub (.sub (.var 3) (.con (.str [112, 105, 108, 101, 115]))) (.var 2)) (.con (.int 0))),
  .ite (.cmp .nin (.sub (.sub (.var 0) (.con (.str [116, 97, 103, 115]))) (.var 1)) (.sub (.sub (.sub (.var 3) (.con (.str [107, 105, 110, 100, 115]))) (.var 4)) (.con (.int 4)))) [.ret (.tup [.con (.str [114, 101, 102, 117, 115, 101, 100]), .con (.str [115, 108, 111, 116])])] [],
  .set 5 (.call false 95 [.var 3]),
  .expr (.call true 67 [.var 5, .var 2, .con (.int (-1))]),
  .ite (.and (.cmp .inn (.var 1) (.sub (.var 0) (.con (.str [119, 111, 114, 110])))) (.cmp .gt (.call true 93 [.var 5, .sub (.sub (.var 0) (.con (.str [119, 111, 114, 110]))) (.var 1), .con (.int 1)]) (.con (.int 0)))) [.ret (.con (.bl false))] [],
  .setI (.var 0) (.con (.str [109, 111, 100, 101, 108])) (.var 5),
  .setI (.sub (.var 0) (.con (.str [119, 111, 114, 110]))) (.var 1) (.var 4),
  .ret (.con (.bl true))]
/-- _law_due (k70) -/
def b__law_due_2 : List DS := [
  .set 4 (.sub (.var 0) (.con (.str [109, 111, 100, 101, 108]))),
  .ite (.cmp .eq (.var 1) (.con (.str [119, 101, 97, 114]))) [.ret (.call false 165 [.var 0, .var 2, .var 3])] [],
  .ite (.cmp .eq (.var 1) (.con (.str [100, 111, 102, 102]))) [.ite (.or (.cmp .nin (.var 2) (.sub (.var 0) (.con (.str [116, 97, 103, 115])))) (.cmp .nin (.var 2) (.sub (.var 0) (.con (.str [119, 111, 114, 110]))))) [.ret (.tup [.con (.str [114, 101, 102, 117, 115, 101, 100]), .ifx (.cmp .nin (.var 2) (.sub (.var 0) (.con (.str [116, 97, 103, 115])))) (.con (.str [115, 108, 111, 116])) (.con (.str [112, 105, 108, 101]))])] [],
  .ite (.cmp .gt (.call true 93 [.var 4, .sub (.sub (.var 0) (.con (.str [119, 111, 114, 110]))) (.var 2), .con (.int 1)]) (.con (.int 0))) [.ret (.con (.bl false))] [],
  .expr (.bm .pop (.sub (.var 0) (.con (.str [119, 111, 114, 110]))) [.var 2]),
  .ret (.con (.bl true))] [],
  .ite (.cmp .nin (.var 3) (.sub (.var 4) (.con (.str [112, 105, 108, 101, 115])))) [.ret (.tup [.con (.str [114, 101, 102, 117, 115, 101, 100]), .con (.str [112, 105, 108, 101])])] [],
  .set 5 (.sub (.sub (.sub (.var 4) (.con (.str [112, 105, 108, 101, 115]))) (.var 3)) (.con (.int 0))),
  .set 6 (.lc false false ⟨[7], false⟩ .e [.sub (.var 0) (.con (.str [110, 97, 109, 101, 115]))] (some (.cmp .inn (.sub (.sub (.var 0) (.con (.str [116, 97, 103, 115]))) (.var 7)) (.sub (.sub (.sub (.var 4) (.con (.str [107, 105, 110, 100, 115]))) (.var 5)) (.con (.int 4))))) (.var 7) [7]),
  .set 6 (.bin .add (.lc false false ⟨[7], false⟩ .e [.var 6] (some (.cmp .nin (.var 7) (.sub (.var 0) (.con (.str [119, 111, 114, 110]))))) (.var 7) [7]) (.var 6)),
  .ret (.ifx (.and (.cmp .ne (.var 6) (.lst false [])) (.call false 165 [.var 0, .sub (.var 6) (.con (.int 0)), .var 3])) (.sub (.var 6) (.con (.int 0))) (.con .non))]
/-- law (k70) -/
def b_law_19 : List DS := [
  .set 1 (.lst true []),
  .set 2 (.call true 59 [.var 0, .var 1]),
  .set 3 (.call true 60 [.var 2]),
  .setT [4, 5] (.call false 83 [.var 0, .var 1, .var 2, .var 3, .con (.int 4)]),
  .set 6 (.rev (.slc (.lst false [.con (.str [108, 101, 102, 116]), .con (.str [114, 105, 103, 104, 116]), .con (.str [116, 111, 112]), .con (.str [98, 101, 108, 116])]) none (some (.call true 9 [.var 0, .var 1, .con (.int 5)])))),
  .set 7 (.dct false [[109, 111, 100, 101, 108], [110, 97, 109, 101, 115], [116, 97, 103, 115], [119, 111, 114, 110]] [.var 5, .var 6, .dct false [] [], .dct false [] []]),
  .loop false ⟨[8], false⟩ .e [.var 6] [.setI (.sub (.var 7) (.con (.str [116, 97, 103, 115]))) (.var 8) (.call true 10 [.var 0, .var 1, .lst false [.con (.str [104, 97, 110, 100]), .con (.str [104, 101, 97, 100])]])],
  .set 9 (.make 20 156 [.var 3, .lc false false ⟨[8], false⟩ .e [.var 6] none (.tup [.var 8, .sub (.sub (.var 7) (.con (.str [116, 97, 103, 115]))) (.var 8)]) [8]]),
  .loop false ⟨[10], false⟩ .rng1 [.call true 9 [.var 0, .var 1, .con (.int 26)]] [.set 11 (.call true 10 [.var 0, .var 1, .lst false [.con (.str [119, 101, 97, 114]), .con (.str [119, 101, 97, 114]), .con (.str [100, 111, 102, 102]), .con (.str [102, 105, 114, 115, 116]), .con (.str [102, 105, 114, 115, 116])]]),
  .set 8 (.call true 10 [.var 0, .var 1, .bin .add (.bin .add (.var 6) (.var 6)) (.lst false [.con (.str [110, 111, 110, 101])])]),
  .set 12 (.call true 10 [.var 0, .var 1, .bin .add (.meth true 17 45 [110, 117, 109, 98, 101, 114, 115] (.var 4) []) (.lst false [.bin .add (.sub (.sub (.var 7) (.con (.str [109, 111, 100, 101, 108]))) (.con (.str [108, 97, 115, 116]))) (.con (.int 1))])]),
  .ite (.cmp .ne (.call false 164 [.var 9, .var 4, .var 11, .var 8, .var 12]) (.call false 166 [.var 7, .var 11, .var 8, .var 12])) [.ret (.con (.bl false))] [],
  .ite (.cmp .ne (.lc false false ⟨[13], false⟩ .e [.var 6] none (.meth true 20 159 [119, 111, 114, 110] (.var 9) [.var 13]) [13]) (.lc false false ⟨[13], false⟩ .e [.var 6] none (.bm .get (.sub (.var 7) (.con (.str [119, 111, 114, 110]))) [.var 13, .con .non]) [13])) [.ret (.con (.bl false))] [],
  .ite (.or (.not (.call true 72 [.var 4, .sub (.var 7) (.con (.str [109, 111, 100, 101, 108]))])) (.cmp .ne (.meth true 20 158 [110, 97, 109, 101, 115] (.var 9) []) (.var 6))) [.ret (.con (.bl false))] [],
  .ite (.cmp .ne (.meth true 20 163 [119, 101, 105, 103, 104, 116] (.var 9) []) (.bi .sum [.lc false true ⟨[14], false⟩ .vals [.sub (.var 7) (.con (.str [119, 111, 114, 110]))] none (.sub (.sub (.var 2) (.var 14)) (.con (.int 3))) [14]])) [.ret (.con (.bl false))] []],
  .set 15 (.lst true [.call false 164 [.var 9, .var 3, .con (.str [110, 101, 119]), .lst false [.tup [.con (.str [97]), .con (.str [98])], .tup [.con (.str [97]), .con (.str [99])]], .con (.int 0)], .call false 164 [.var 9, .var 3, .con (.str [110, 101, 119]), .lst false [.tup [.con (.str [65]), .con (.str [98])]], .con (.int 0)]]),
  .expr (.bm .append (.var 15) [.call false 164 [.var 9, .var 4, .con (.str [119, 111, 114, 110]), .con (.str [110, 111, 110, 101]), .con (.int 0)]]),
  .ret (.cmp .eq (.var 15) (.lst false [.tup [.con (.str [114, 101, 102, 117, 115, 101, 100]), .con (.str [115, 108, 111, 116])], .tup [.con (.str [114, 101, 102, 117, 115, 101, 100]), .con (.str [107, 105, 110, 100])], .tup [.con (.str [114, 101, 102, 117, 115, 101, 100]), .con (.str [115, 108, 111, 116])]]))]
/-- _law_whole (k71) -/
def b__law_whole_2 : List DS := [
  .set 3 (.mkd (.meth true 17 53 [99, 111, 117, 110, 116, 115] (.var 0) [])),
  .loop false ⟨[4], false⟩ .e [.var 2] [.set 5 (.meth true 20 159 [119, 111, 114, 110] (.var 1) [.var 4]),
  .ite (.cmp .notN (.var 5) (.con .non)) [.setI (.var 3) (.var 5) (.bin .add (.bm .get (.var 3) [.var 5, .con (.int 0)]) (.con (.int 1)))] []],
  .ret (.var 3)]
/-- law (k71) -/
def b_law_20 : List DS := [
  .set 1 (.lst true []),
  .set 2 (.call true 59 [.var 0, .var 1]),
  .set 3 (.call true 60 [.var 2]),
  .setT [4, 5] (.call false 83 [.var 0, .var 1, .var 2, .var 3, .con (.int 3)]),
  .set 6 (.dct false [[108, 101, 102, 116], [114, 105, 103, 104, 116], [116, 111, 112]] [.con (.str [104, 97, 110, 100]), .con (.str [104, 97, 110, 100]), .con (.str [104, 101, 97, 100])]),
  .set 7 (.keysL false (.var 6)),
  .set 8 (.make 20 156 [.var 3, .lc false false ⟨[9], false⟩ .e [.var 7] none (.tup [.var 9, .sub (.var 6) (.var 9)]) [9]]),
  .set 10 (.mkd (.meth true 17 53 [99, 111, 117, 110, 116, 115] (.var 4) [])),
  .set 11 (.meth true 17 54 [119, 101, 105, 103, 104, 116] (.var 4) []),
  .loop false ⟨[12], false⟩ .rng1 [.call true 9 [.var 0, .var 1, .con (.int 21)]] [.set 9 (.call true 10 [.var 0, .var 1, .var 7]),
  .set 13 (.lc false false ⟨[14], false⟩ .e [.meth true 17 45 [110, 117, 109, 98, 101, 114, 115] (.var 4) []] (some (.cmp .inn (.sub (.var 6) (.var 9)) (.sub (.sub (.var 2) (.sub (.meth true 17 43 [112, 105, 108, 101] (.var 4) [.var 14]) (.con (.int 0)))) (.con (.int 4))))) (.var 14) [14]),
  .set 15 (.call true 9 [.var 0, .var 1, .con (.int 3)]),
  .set 16 (.meth true 17 57 [112, 105, 99, 116, 117, 114, 101] (.var 4) []),
  .ite (.and (.cmp .eq (.var 15) (.con (.int 0))) (.cmp .notN (.meth true 20 159 [119, 111, 114, 110] (.var 8) [.var 9]) (.con .non))) [.ite (.cmp .ne (.meth false 20 161 [100, 111, 102, 102] (.var 8) [.var 9, .var 4]) (.cmp .isN (.meth true 20 159 [119, 111, 114, 110] (.var 8) [.var 9]) (.con .non))) [.ret (.con (.bl false))] []] [.ite (.and (.cmp .eq (.var 15) (.con (.int 1))) (.cmp .ne (.var 13) (.lst false []))) [.set 17 (.sub (.meth true 17 43 [112, 105, 108, 101] (.var 4) [.sub (.var 13) (.con (.int 0))]) (.con (.int 0))),
  .ite (.and (.meth false 20 160 [119, 101, 97, 114] (.var 8) [.var 9, .var 4, .sub (.var 13) (.con (.int 0))]) (.cmp .ne (.meth true 20 159 [119, 111, 114, 110] (.var 8) [.var 9]) (.var 17))) [.ret (.con (.bl false))] []] [.ite (.cmp .ne (.var 13) (.lst false [])) [.set 18 (.lc false false ⟨[19], false⟩ .e [.var 7] (some (.cmp .isN (.meth true 20 159 [119, 111, 114, 110] (.var 8) [.var 19]) (.con .non))) (.var 19) [19]),
  .set 17 (.sub (.meth true 17 43 [112, 105, 108, 101] (.var 4) [.sub (.var 13) (.con (.int 0))]) (.con (.int 0))),
  .set 20 (.meth false 20 162 [119, 101, 97, 114, 95, 102, 105, 114, 115, 116] (.var 8) [.var 4, .sub (.var 13) (.con (.int 0))]),
  .ite (.and (.cmp .isN (.var 20) (.con .non)) (.cmp .ne (.meth true 17 57 [112, 105, 99, 116, 117, 114, 101] (.var 4) []) (.var 16))) [.ret (.con (.bl false))] [],
  .ite (.and (.cmp .notN (.var 20) (.con .non)) (.cmp .nin (.var 20) (.var 18))) [.ite (.cmp .ne (.lc false false ⟨[19], false⟩ .e [.var 18] (some (.cmp .inn (.sub (.var 6) (.var 19)) (.sub (.sub (.var 2) (.var 17)) (.con (.int 4))))) (.var 19) [19]) (.lst false [])) [.ret (.con (.bl false))] []] []] []]],
  .ite (.or (.eqd true (.call true 168 [.var 4, .var 8, .var 7]) (.var 10)) (.cmp .ne (.bin .add (.meth true 17 54 [119, 101, 105, 103, 104, 116] (.var 4) []) (.meth true 20 163 [119, 101, 105, 103, 104, 116] (.var 8) [])) (.var 11))) [.ret (.con (.bl false))] [],
  .ite (.not (.bi .all [.lc false false ⟨[19], false⟩ .e [.var 7] none (.or (.cmp .isN (.meth true 20 159 [119, 111, 114, 110] (.var 8) [.var 19]) (.con .non)) (.cmp .inn (.sub (.var 6) (.var 19)) (.sub (.sub (.var 2) (.meth true 20 159 [119, 111, 114, 110] (.var 8) [.var 19])) (.con (.int 4))))) [19]])) [.ret (.con (.bl false))] []],
  .ret (.con (.bl true))]
/-- written (k80) -/
def b_written : List DS := [
  .set 1 (.lst true [.bin .add (.bin .add (.bi .str [.att 17 (.var 0) [114, 111, 119, 115]]) (.con (.str [32]))) (.bi .str [.att 17 (.var 0) [99, 111, 108, 117, 109, 110, 115]])]),
  .loop false ⟨[2, 3, 4, 5, 6], true⟩ .e [.meth true 17 57 [112, 105, 99, 116, 117, 114, 101] (.var 0) []] [.expr (.bm .append (.var 1) [.bin .add (.bin .add (.var 2) (.con (.str [32]))) (.bm .join (.con (.str [32])) [.lc false false ⟨[7], false⟩ .e [.tup [.var 3, .var 4, .var 5, .var 6]] none (.bi .str [.var 7]) [7]])])],
  .ret (.bm .join (.con (.str [10])) [.var 1])]
/-- number_in (k80) -/
def b_number_in : List DS := [
  .ite (.or (.not (.chain .le .le (.con (.int 1)) (.bi .len [.var 0]) (.con (.int 2)))) (.or (.not (.bi .all [.lc false false ⟨[1], false⟩ .e [.var 0] none (.cmp .inn (.var 1) (.con (.str [48, 49, 50, 51, 52, 53, 54, 55, 56, 57]))) [1]])) (.and (.cmp .eq (.sub (.var 0) (.con (.int 0))) (.con (.str [48]))) (.cmp .ne (.var 0) (.con (.str [48])))))) [.rais 7] [],
  .ret (.bi .int [.var 0])]
/-- woken (k80) -/
def b_woken : List DS := [
  .set 2 (.bm .split (.var 1) [.con (.str [10])]),
  .set 3 (.bm .split (.sub (.var 2) (.con (.int 0))) [.con (.str [32])]),
  .ite (.cmp .ne (.bi .len [.var 3]) (.con (.int 2))) [.rais 7] [],
  .set 4 (.lc false false ⟨[5], false⟩ .e [.var 3] none (.call true 171 [.var 5]) [5]),
  .set 6 (.con (.bl true)),
  .set 7 (.con .non),
  .tryE [.set 7 (.make 17 34 [.var 0, .sub (.var 4) (.con (.int 0)), .sub (.var 4) (.con (.int 1))]),
  .loop false ⟨[8], false⟩ .e [.slc (.var 2) (some (.con (.int 1))) none] [.set 3 (.bm .split (.var 8) [.con (.str [32])]),
  .ite (.cmp .ne (.bi .len [.var 3]) (.con (.int 5))) [.rais 7] [],
  .set 9 (.lc false false ⟨[5], false⟩ .e [.slc (.var 3) (some (.con (.int 1))) none] none (.call true 171 [.var 5]) [5]),
  .expr (.meth false 17 41 [112, 117, 116] (.var 7) [.sub (.var 3) (.con (.int 0)), .sub (.var 9) (.con (.int 0)), .sub (.var 9) (.con (.int 1)), .sub (.var 9) (.con (.int 2)), .sub (.var 9) (.con (.int 3))])]] none [.set 6 (.con (.bl false))],
  .ite (.or (.not (.var 6)) (.cmp .ne (.call true 170 [.var 7]) (.var 1))) [.rais 7] [],
  .ret (.var 7)]
/-- _law_told (k80) -/
def b__law_told_11 : List DS := [
  .set 2 (.con .non),
  .set 3 (.con .non),
  .tryE [.set 3 (.call false 172 [.var 0, .var 1])] (some 4) [.set 2 (.var 4)],
  .ret (.ifx (.cmp .isN (.var 2) (.con .non)) (.var 3) (.call true 11 [.var 2]))]
/-- _law_text (k80) -/
def b__law_text : List DS := [
  .set 1 (.lst true [.bin .add (.bin .add (.bi .str [.sub (.var 0) (.con (.str [114, 111, 119, 115]))]) (.con (.str [32]))) (.bi .str [.sub (.var 0) (.con (.str [99, 111, 108, 117, 109, 110, 115]))])]),
  .loop false ⟨[2], false⟩ .e [.call true 70 [.var 0]] [.expr (.bm .append (.var 1) [.bm .join (.con (.str [32])) [.lc false false ⟨[3], false⟩ .e [.var 2] none (.bi .str [.var 3]) [3]]])],
  .ret (.bm .join (.con (.str [10])) [.var 1])]
/-- _law_bent (k80) -/
def b__law_bent : List DS := [
  .set 3 (.call true 9 [.var 0, .var 1, .con (.int 4)]),
  .set 4 (.call true 9 [.var 0, .var 1, .bi .len [.var 2]]),
  .set 5 (.call true 10 [.var 0, .var 1, .lst false [.con (.str [48]), .con (.str [49]), .con (.str [57]), .con (.str [32]), .con (.str [10]), .con (.str [97]), .con (.str [120])]]),
  .ite (.cmp .eq (.var 3) (.con (.int 3))) [.set 6 (.bm .split (.var 2) [.con (.str [10])]),
  .ret (.bm .join (.con (.str [10])) [.bin .add (.slc (.var 6) none (some (.con (.int 1)))) (.rev (.slc (.var 6) (some (.con (.int 1))) none))])] [],
  .ret (.bin .add (.bin .add (.slc (.var 2) none (some (.var 4))) (.sub (.lst false [.var 5, .con (.str []), .var 5]) (.var 3))) (.slc (.var 2) (some (.bin .add (.var 4) (.sub (.lst false [.con (.int 0), .con (.int 1), .con (.int 1)]) (.var 3)))) none))]
/-- _law_number (k80) -/
def b__law_number : List DS := [
  .ite (.or (.not (.chain .le .le (.con (.int 1)) (.bi .len [.var 0]) (.con (.int 2)))) (.not (.bi .all [.lc false false ⟨[1], false⟩ .e [.var 0] none (.cmp .inn (.var 1) (.con (.str [48, 49, 50, 51, 52, 53, 54, 55, 56, 57]))) [1]]))) [.ret (.con .non)] [],
  .ret (.ifx (.cmp .eq (.bi .str [.bi .int [.var 0]]) (.var 0)) (.bi .int [.var 0]) (.con .non))]
/-- _law_is_right (k80) -/
def b__law_is_right : List DS := [
  .set 2 (.lc false false ⟨[3], false⟩ .e [.bm .split (.var 1) [.con (.str [10])]] none (.bm .split (.var 3) [.con (.str [32])]) [3]),
  .set 4 (.lc false false ⟨[5], false⟩ .e [.sub (.var 2) (.con (.int 0))] none (.call true 176 [.var 5]) [5]),
  .ite (.or (.cmp .ne (.bi .len [.var 4]) (.con (.int 2))) (.not (.bi .all [.lc false false ⟨[6], false⟩ .e [.var 4] none (.and (.cmp .notN (.var 6) (.con .non)) (.chain .le .le (.con (.int 1)) (.var 6) (.con (.int 10)))) [6]]))) [.ret (.con (.bl false))] [],
  .set 7 (.call false 61 [.var 0, .sub (.var 4) (.con (.int 0)), .sub (.var 4) (.con (.int 1))]),
  .loop false ⟨[8], false⟩ .e [.slc (.var 2) (some (.con (.int 1))) none] [.set 9 (.lc false false ⟨[5], false⟩ .e [.slc (.var 8) (some (.con (.int 1))) none] none (.call true 176 [.var 5]) [5]),
  .ite (.or (.cmp .ne (.bi .len [.var 9]) (.con (.int 4))) (.or (.cmp .inn (.con .non) (.var 9)) (.cmp .nin (.sub (.var 8) (.con (.int 0))) (.var 0)))) [.ret (.con (.bl false))] [],
  .setT [10, 11, 3, 12] (.var 9),
  .ite (.or (.not (.chain .le .le (.con (.int 1)) (.var 10) (.sub (.sub (.var 0) (.sub (.var 8) (.con (.int 0)))) (.con (.int 1))))) (.not (.call true 65 [.var 7, .sub (.var 8) (.con (.int 0)), .var 11, .var 3, .var 12, .con .non]))) [.ret (.con (.bl false))] [],
  .expr (.call true 66 [.var 7, .sub (.var 8) (.con (.int 0)), .var 10, .var 11, .var 3, .var 12])],
  .ret (.cmp .eq (.call true 174 [.var 7]) (.var 1))]
/-- law (k80) -/
def b_law_21 : List DS := [
  .set 1 (.lst true []),
  .set 2 (.call true 59 [.var 0, .var 1]),
  .set 3 (.call true 60 [.var 2]),
  .setT [4, 5] (.call false 83 [.var 0, .var 1, .var 2, .var 3, .con (.int 6)]),
  .set 6 (.call true 174 [.var 5]),
  .ite (.cmp .ne (.call true 170 [.var 4]) (.var 6)) [.ret (.con (.bl false))] [],
  .set 7 (.call false 173 [.var 3, .var 6]),
  .ite (.or (.isT (.var 7)) (.cmp .ne (.call true 170 [.var 7]) (.var 6))) [.ret (.con (.bl false))] [],
  .ite (.cmp .ne (.meth true 17 45 [110, 117, 109, 98, 101, 114, 115] (.var 7) []) (.lc false false ⟨[8], false⟩ .rng1 [.bi .len [.meth true 17 45 [110, 117, 109, 98, 101, 114, 115] (.var 4) []]] none (.bin .add (.var 8) (.con (.int 1))) [8])) [.ret (.con (.bl false))] [],
  .ite (.or (.cmp .ne (.meth true 17 57 [112, 105, 99, 116, 117, 114, 101] (.var 7) []) (.meth true 17 57 [112, 105, 99, 116, 117, 114, 101] (.var 4) [])) (.cmp .ne (.meth true 17 55 [102, 114, 101, 101] (.var 7) []) (.meth true 17 55 [102, 114, 101, 101] (.var 4) []))) [.ret (.con (.bl false))] [],
  .ite (.and (.cmp .gt (.meth true 17 55 [102, 114, 101, 101] (.var 7) []) (.con (.int 0))) (.and (.cmp .isN (.meth true 17 46 [97, 116] (.var 7) [.con (.int 0), .con (.int 0)]) (.con .non)) (.cmp .ne (.meth false 17 41 [112, 117, 116] (.var 7) [.con (.str [99, 111, 105, 110]), .con (.int 1), .con (.int 0), .con (.int 0), .con (.int 0)]) (.bin .add (.bi .len [.meth true 17 45 [110, 117, 109, 98, 101, 114, 115] (.var 4) []]) (.con (.int 1)))))) [.ret (.con (.bl false))] [],
  .loop false ⟨[8], false⟩ .rng1 [.con (.int 8)] [.set 9 (.call true 175 [.var 0, .var 1, .var 6]),
  .set 10 (.call false 173 [.var 3, .var 9]),
  .ite (.not (.call false 177 [.var 2, .var 9])) [.ite (.cmp .ne (.var 10) (.tup [.con (.str [114, 101, 102, 117, 115, 101, 100]), .con (.str [116, 101, 120, 116])])) [.ret (.con (.bl false))] []] [.ite (.or (.isT (.var 10)) (.cmp .ne (.call true 170 [.var 10]) (.var 9))) [.ret (.con (.bl false))] []]],
  .set 11 (.lst true [.con (.str []), .con (.str [53]), .con (.str [48, 32, 53]), .con (.str [53, 32, 49, 49]), .con (.str [53, 32, 53, 32, 53]), .con (.str [48, 53, 32, 53]), .con (.str [53, 32, 53, 10]), .con (.str [53, 32, 53, 10, 99, 111, 105, 110, 32, 49, 32, 48, 32, 48]), .con (.str [53, 32, 53, 10, 110, 111, 110, 101, 32, 49, 32, 48, 32, 48, 32, 48])]),
  .set 11 (.cat (.var 11) (.lst false [.con (.str [53, 32, 53, 10, 99, 111, 105, 110, 32, 49, 48, 32, 48, 32, 48, 32, 48]), .con (.str [53, 32, 53, 10, 99, 111, 105, 110, 32, 49, 32, 48, 32, 48, 32, 48, 10, 99, 111, 105, 110, 32, 49, 32, 48, 32, 48, 32, 48]), .con (.str [53, 32, 53, 10, 99, 111, 105, 110, 32, 49, 32, 49, 32, 48, 32, 48]), .con (.str [32, 53, 32, 53])])),
  .expr (.bm .append (.var 11) [.con (.str [53, 32, 53, 10, 99, 111, 105, 110, 32, 49, 32, 48, 32, 53, 32, 48])]),
  .ret (.cmp .eq (.call false 173 [.var 3, .call true 10 [.var 0, .var 1, .var 11]]) (.tup [.con (.str [114, 101, 102, 117, 115, 101, 100]), .con (.str [116, 101, 120, 116])]))]
/-- _law_sound (k90) -/
def b__law_sound : List DS := [
  .set 2 (.lst false []),
  .loop false ⟨[3, 4, 5, 6, 7], true⟩ .e [.meth true 17 57 [112, 105, 99, 116, 117, 114, 101] (.var 0) []] [.ite (.or (.not (.chain .le .le (.con (.int 1)) (.var 4) (.sub (.sub (.sub (.var 1) (.con (.str [107, 105, 110, 100, 115]))) (.var 3)) (.con (.int 1))))) (.cmp .nin (.var 5) (.call true 63 [.var 1, .var 3]))) [.ret (.con (.bl false))] [],
  .set 2 (.bin .add (.var 2) (.call true 62 [.var 1, .var 3, .var 5, .var 6, .var 7]))],
  .ite (.or (.cmp .lt (.bi .setLen [.var 2]) (.bi .len [.var 2])) (.cmp .lt (.bi .setLen [.meth true 17 45 [110, 117, 109, 98, 101, 114, 115] (.var 0) []]) (.bi .len [.meth true 17 45 [110, 117, 109, 98, 101, 114, 115] (.var 0) []]))) [.ret (.con (.bl false))] [],
  .set 8 (.lc false false ⟨[6, 7], true⟩ .e [.var 2] (some (.and (.chain .le .lt (.con (.int 0)) (.var 6) (.sub (.var 1) (.con (.str [114, 111, 119, 115])))) (.chain .le .lt (.con (.int 0)) (.var 7) (.sub (.var 1) (.con (.str [99, 111, 108, 117, 109, 110, 115])))))) (.var 6) [6, 7]),
  .ret (.and (.cmp .eq (.bi .len [.var 8]) (.bi .len [.var 2])) (.cmp .eq (.meth true 17 55 [102, 114, 101, 101] (.var 0) []) (.bin .sub (.bin .mul (.sub (.var 1) (.con (.str [114, 111, 119, 115]))) (.sub (.var 1) (.con (.str [99, 111, 108, 117, 109, 110, 115])))) (.bi .len [.var 2]))))]
/-- _law_whole (k90) -/
def b__law_whole_3 : List DS := [
  .set 1 (.dct false [] []),
  .loop true ⟨[2], false⟩ .keys [.sub (.var 0) (.con (.str [119, 104, 111, 108, 101]))] [.setI (.var 1) (.var 2) (.bi .sum [.lc false false ⟨[3], false⟩ .e [.sub (.var 0) (.con (.str [98, 97, 103, 115]))] none (.meth true 17 52 [99, 111, 117, 110, 116] (.var 3) [.var 2]) [3]])],
  .set 4 (.meth true 19 112 [104, 101, 108, 100] (.sub (.var 0) (.con (.str [104, 97, 110, 100]))) []),
  .ite (.cmp .notN (.var 4) (.con .non)) [.setI (.var 1) (.sub (.var 4) (.con (.int 0))) (.bin .add (.sub (.var 1) (.sub (.var 4) (.con (.int 0)))) (.sub (.var 4) (.con (.int 1))))] [],
  .loop false ⟨[5], false⟩ .e [.meth true 20 158 [110, 97, 109, 101, 115] (.sub (.var 0) (.con (.str [115, 108, 111, 116, 115]))) []] [.set 2 (.meth true 20 159 [119, 111, 114, 110] (.sub (.var 0) (.con (.str [115, 108, 111, 116, 115]))) [.var 5]),
  .ite (.cmp .notN (.var 2) (.con .non)) [.setI (.var 1) (.var 2) (.bin .add (.sub (.var 1) (.var 2)) (.con (.int 1)))] []],
  .ret (.var 1)]
/-- _law_by_hand (k90) -/
def b__law_by_hand : List DS := [
  .par [4, 5] [.call true 9 [.var 0, .var 1, .sub (.var 3) (.con (.str [114, 111, 119, 115]))], .call true 9 [.var 0, .var 1, .sub (.var 3) (.con (.str [99, 111, 108, 117, 109, 110, 115]))]],
  .set 6 (.call true 9 [.var 0, .var 1, .con (.int 5)]),
  .ite (.cmp .lt (.var 6) (.con (.int 2))) [.expr (.meth false 19 117 [112, 114, 101, 115, 115] (.sub (.var 2) (.con (.str [104, 97, 110, 100]))) [.var 4, .var 5])] [.ite (.cmp .eq (.var 6) (.con (.int 2))) [.expr (.meth false 19 118 [112, 114, 101, 115, 115, 95, 111, 110, 101] (.sub (.var 2) (.con (.str [104, 97, 110, 100]))) [.var 4, .var 5])] [.ite (.cmp .eq (.var 6) (.con (.int 3))) [.expr (.meth true 19 114 [116, 117, 114, 110, 95, 111, 110] (.sub (.var 2) (.con (.str [104, 97, 110, 100]))) [])] [.ite (.cmp .notN (.meth true 19 112 [104, 101, 108, 100] (.sub (.var 2) (.con (.str [104, 97, 110, 100]))) []) (.con .non)) [.set 7 (.lst false [.tup [.var 4, .var 5], .tup [.con (.int 0), .con (.int 0)], .tup [.bin .sub (.sub (.var 3) (.con (.str [114, 111, 119, 115]))) (.con (.int 1)), .con (.int 0)]]),
  .expr (.meth false 19 119 [115, 112, 114, 101, 97, 100] (.sub (.var 2) (.con (.str [104, 97, 110, 100]))) [.lc false false ⟨[8], false⟩ .rng1 [.con (.int 3)] (some (.cmp .nin (.sub (.var 7) (.var 8)) (.slc (.var 7) none (some (.var 8))))) (.sub (.var 7) (.var 8)) [8]])] []]]]]
/-- _law_by_pile (k90) -/
def b__law_by_pile : List DS := [
  .par [5, 6] [.sub (.sub (.var 2) (.con (.str [98, 97, 103, 115]))) (.var 3), .sub (.sub (.var 2) (.con (.str [98, 97, 103, 115]))) (.bin .sub (.con (.int 1)) (.var 3))],
  .set 7 (.call true 9 [.var 0, .var 1, .con (.int 5)]),
  .setT [8, 9, 10, 11, 12] (.meth true 17 43 [112, 105, 108, 101] (.var 5) [.var 4]),
  .set 13 (.tup [.call true 9 [.var 0, .var 1, .con (.int 4)], .call true 9 [.var 0, .var 1, .con (.int 4)]]),
  .ite (.and (.cmp .eq (.var 7) (.con (.int 0))) (.and (.cmp .gt (.var 9) (.con (.int 1))) (.meth true 17 37 [102, 105, 116, 115] (.var 5) [.var 8, .var 10, .sub (.var 13) (.con (.int 0)), .sub (.var 13) (.con (.int 1))]))) [.expr (.meth false 17 50 [115, 112, 108, 105, 116] (.var 5) [.var 4, .bin .add (.con (.int 1)) (.call true 9 [.var 0, .var 1, .bin .sub (.var 9) (.con (.int 1))]), .var 10, .sub (.var 13) (.con (.int 0)), .sub (.var 13) (.con (.int 1))])] [],
  .ite (.cmp .eq (.var 7) (.con (.int 1))) [.set 14 (.lc false false ⟨[15], false⟩ .e [.meth true 17 45 [110, 117, 109, 98, 101, 114, 115] (.var 5) []] (some (.and (.cmp .ne (.var 15) (.var 4)) (.cmp .eq (.sub (.meth true 17 43 [112, 105, 108, 101] (.var 5) [.var 15]) (.con (.int 0))) (.var 8)))) (.var 15) [15]),
  .ite (.cmp .ne (.var 14) (.lst false [])) [.expr (.meth true 17 51 [106, 111, 105, 110] (.var 5) [.var 4, .sub (.var 14) (.con (.int 0))])] []] [],
  .ite (.cmp .eq (.var 7) (.con (.int 2))) [.expr (.call false 104 [.var 5, .var 4, .var 6])] [],
  .ite (.and (.cmp .eq (.var 7) (.con (.int 3))) (.cmp .eq (.var 3) (.con (.int 0)))) [.expr (.meth false 20 162 [119, 101, 97, 114, 95, 102, 105, 114, 115, 116] (.sub (.var 2) (.con (.str [115, 108, 111, 116, 115]))) [.var 5, .var 4])] [],
  .ite (.and (.cmp .eq (.var 7) (.con (.int 4))) (.meth true 17 37 [102, 105, 116, 115] (.var 5) [.var 8, .var 10, .sub (.var 13) (.con (.int 0)), .sub (.var 13) (.con (.int 1))])) [.expr (.meth false 17 49 [109, 111, 118, 101] (.var 5) [.var 4, .var 10, .sub (.var 13) (.con (.int 0)), .sub (.var 13) (.con (.int 1))])] []]
/-- _law_by_kind (k90) -/
def b__law_by_kind : List DS := [
  .set 4 (.sub (.sub (.var 2) (.con (.str [98, 97, 103, 115]))) (.var 3)),
  .set 5 (.call true 9 [.var 0, .var 1, .con (.int 5)]),
  .set 6 (.call true 10 [.var 0, .var 1, .keysL true (.sub (.var 2) (.con (.str [119, 104, 111, 108, 101])))]),
  .set 7 (.call true 9 [.var 0, .var 1, .con (.int 8)]),
  .ite (.cmp .eq (.var 5) (.con (.int 0))) [.setI (.sub (.var 2) (.con (.str [119, 104, 111, 108, 101]))) (.var 6) (.bin .sub (.bin .add (.sub (.sub (.var 2) (.con (.str [119, 104, 111, 108, 101]))) (.var 6)) (.var 7)) (.call false 89 [.var 4, .var 6, .var 7]))] [],
  .ite (.cmp .eq (.var 5) (.con (.int 1))) [.setI (.sub (.var 2) (.con (.str [119, 104, 111, 108, 101]))) (.var 6) (.bin .add (.bin .sub (.sub (.sub (.var 2) (.con (.str [119, 104, 111, 108, 101]))) (.var 6)) (.var 7)) (.call true 90 [.var 4, .var 6, .var 7]))] [],
  .ite (.cmp .eq (.var 5) (.con (.int 2))) [.expr (.call false 101 [.var 4])] [],
  .ite (.cmp .eq (.var 5) (.con (.int 3))) [.expr (.call false 105 [.var 4, .sub (.sub (.var 2) (.con (.str [98, 97, 103, 115]))) (.bin .sub (.con (.int 1)) (.var 3))])] [],
  .set 8 (.call true 10 [.var 0, .var 1, .meth true 20 158 [110, 97, 109, 101, 115] (.sub (.var 2) (.con (.str [115, 108, 111, 116, 115]))) []]),
  .ite (.and (.cmp .eq (.var 5) (.con (.int 4))) (.cmp .notN (.meth true 20 159 [119, 111, 114, 110] (.sub (.var 2) (.con (.str [115, 108, 111, 116, 115]))) [.var 8]) (.con .non))) [.expr (.meth false 20 161 [100, 111, 102, 102] (.sub (.var 2) (.con (.str [115, 108, 111, 116, 115]))) [.var 8, .var 4])] []]
/-- law (k90) -/
def b_law_22 : List DS := [
  .set 1 (.lst true []),
  .set 2 (.call true 59 [.var 0, .var 1]),
  .set 3 (.call true 60 [.var 2]),
  .set 4 (.lc false false ⟨[5], false⟩ .rng1 [.con (.int 2)] none (.call false 83 [.var 0, .var 1, .var 2, .var 3, .con (.int 5)]) [5]),
  .set 6 (.dct false [[98, 97, 103, 115], [104, 97, 110, 100], [119, 104, 111, 108, 101]] [.lc false false ⟨[7, 8], true⟩ .e [.var 4] none (.var 7) [7, 8], .make 19 111 [.sub (.sub (.var 4) (.con (.int 0))) (.con (.int 0))], .dct false [] []]),
  .setI (.var 6) (.con (.str [115, 108, 111, 116, 115])) (.make 20 156 [.var 3, .lst false [.tup [.con (.str [108, 101, 102, 116]), .con (.str [104, 97, 110, 100])], .tup [.con (.str [116, 111, 112]), .con (.str [104, 101, 97, 100])]]]),
  .loop false ⟨[9], false⟩ .keysV [.var 2] [.setI (.sub (.var 6) (.con (.str [119, 104, 111, 108, 101]))) (.var 9) (.bi .sum [.lc false false ⟨[7, 8], true⟩ .e [.var 4] none (.meth true 17 52 [99, 111, 117, 110, 116] (.var 7) [.var 9]) [7, 8]])],
  .loop false ⟨[5], false⟩ .rng1 [.call true 9 [.var 0, .var 1, .con (.int 61)]] [.set 10 (.call true 9 [.var 0, .var 1, .con (.int 2)]),
  .set 11 (.meth true 17 45 [110, 117, 109, 98, 101, 114, 115] (.sub (.sub (.var 6) (.con (.str [98, 97, 103, 115]))) (.var 10)) []),
  .set 12 (.call true 9 [.var 0, .var 1, .con (.int 3)]),
  .ite (.cmp .eq (.var 12) (.con (.int 0))) [.expr (.call false 181 [.var 0, .var 1, .var 6, .sub (.sub (.var 4) (.con (.int 0))) (.con (.int 1))])] [.ite (.and (.cmp .eq (.var 12) (.con (.int 1))) (.cmp .ne (.var 11) (.lst false []))) [.expr (.call false 182 [.var 0, .var 1, .var 6, .var 10, .call true 10 [.var 0, .var 1, .var 11]])] [.expr (.call false 183 [.var 0, .var 1, .var 6, .var 10])]],
  .ite (.eqd true (.call true 180 [.var 6]) (.sub (.var 6) (.con (.str [119, 104, 111, 108, 101])))) [.ret (.con (.bl false))] [],
  .loop false ⟨[13], false⟩ .rng1 [.con (.int 2)] [.set 7 (.sub (.sub (.var 6) (.con (.str [98, 97, 103, 115]))) (.var 13)),
  .ite (.or (.not (.call true 179 [.var 7, .sub (.sub (.var 4) (.var 13)) (.con (.int 1))])) (.cmp .ne (.meth true 17 57 [112, 105, 99, 116, 117, 114, 101] (.call false 172 [.var 3, .call true 170 [.var 7]]) []) (.meth true 17 57 [112, 105, 99, 116, 117, 114, 101] (.var 7) []))) [.ret (.con (.bl false))] []]],
  .ret (.con (.bl true))]
def TB : Nat → Option FD
  | 0 => some ⟨1, 5, b_look_shape⟩
  | 1 => some ⟨1, 3, b_turn_once⟩
  | 2 => some ⟨2, 3, b_turned⟩
  | 3 => some ⟨1, 4, b_cells⟩
  | 4 => some ⟨1, 2, b_size⟩
  | 5 => some ⟨1, 4, b_turns_of⟩
  | 6 => some ⟨2, 3, b_is_alike⟩
  | 7 => some ⟨2, 2, b__law_cell⟩
  | 8 => some ⟨2, 3, b__law_mix⟩
  | 9 => some ⟨3, 3, b__law_draw⟩
  | 10 => some ⟨3, 3, b__law_pick⟩
  | 11 => some ⟨1, 2, b__law_refusal⟩
  | 12 => some ⟨3, 13, b__law_shape⟩
  | 13 => some ⟨2, 8, b__law_cells⟩
  | 14 => some ⟨1, 6, b__law_drawn⟩
  | 15 => some ⟨1, 5, b__law_turns⟩
  | 16 => some ⟨2, 5, b__law_told⟩
  | 17 => some ⟨1, 10, b_law⟩
  | 18 => some ⟨1, 2, b_look_name⟩
  | 19 => some ⟨1, 1, b_Book___init__⟩
  | 20 => some ⟨7, 8, b_Book_add⟩
  | 21 => some ⟨2, 2, b_Book_need⟩
  | 22 => some ⟨1, 1, b_Book_names⟩
  | 23 => some ⟨2, 2, b_Book_shape⟩
  | 24 => some ⟨2, 2, b_Book_most⟩
  | 25 => some ⟨2, 2, b_Book_turns⟩
  | 26 => some ⟨2, 2, b_Book_weight⟩
  | 27 => some ⟨3, 3, b_Book_has_tag⟩
  | 28 => some ⟨2, 5, b__law_told_2⟩
  | 29 => some ⟨3, 6, b__law_asked⟩
  | 30 => some ⟨2, 8, b__law_due⟩
  | 31 => some ⟨1, 16, b_law_2⟩
  | 32 => some ⟨6, 6, b_Pile___init__⟩
  | 33 => some ⟨1, 1, b_Pile_told⟩
  | 34 => some ⟨4, 4, b_Bag___init__⟩
  | 35 => some ⟨5, 8, b_Bag_cells_of⟩
  | 36 => some ⟨3, 5, b_Bag_is_free⟩
  | 37 => some ⟨5, 5, b_Bag_fits⟩
  | 38 => some ⟨3, 3, b_Bag_look_many⟩
  | 39 => some ⟨3, 4, b_Bag_lay⟩
  | 40 => some ⟨2, 4, b_Bag_lift⟩
  | 41 => some ⟨6, 6, b_Bag_put⟩
  | 42 => some ⟨2, 2, b_Bag_need⟩
  | 43 => some ⟨2, 2, b_Bag_pile⟩
  | 44 => some ⟨2, 3, b_Bag_place_of⟩
  | 45 => some ⟨1, 1, b_Bag_numbers⟩
  | 46 => some ⟨3, 3, b_Bag_at⟩
  | 47 => some ⟨3, 3, b_Bag_take⟩
  | 48 => some ⟨4, 5, b_Bag_pile_up⟩
  | 49 => some ⟨5, 7, b_Bag_move⟩
  | 50 => some ⟨6, 8, b_Bag_split⟩
  | 51 => some ⟨3, 4, b_Bag_join⟩
  | 52 => some ⟨2, 3, b_Bag_count⟩
  | 53 => some ⟨1, 2, b_Bag_counts⟩
  | 54 => some ⟨1, 2, b_Bag_weight⟩
  | 55 => some ⟨1, 1, b_Bag_free⟩
  | 56 => some ⟨1, 3, b_Bag_shown⟩
  | 57 => some ⟨1, 2, b_Bag_picture⟩
  | 58 => some ⟨2, 2, b_Bag_become⟩
  | 59 => some ⟨2, 8, b__law_kinds⟩
  | 60 => some ⟨1, 8, b__law_book⟩
  | 61 => some ⟨3, 3, b__law_bag⟩
  | 62 => some ⟨5, 7, b__law_taken⟩
  | 63 => some ⟨2, 2, b__law_turns_of⟩
  | 64 => some ⟨2, 10, b__law_under⟩
  | 65 => some ⟨6, 7, b__law_fits⟩
  | 66 => some ⟨6, 6, b__law_put⟩
  | 67 => some ⟨3, 8, b__law_change⟩
  | 68 => some ⟨2, 7, b__law_first⟩
  | 69 => some ⟨1, 4, b__law_numbers⟩
  | 70 => some ⟨1, 2, b__law_picture⟩
  | 71 => some ⟨2, 3, b__law_count⟩
  | 72 => some ⟨2, 15, b__law_same⟩
  | 73 => some ⟨3, 6, b__law_told_3⟩
  | 74 => some ⟨2, 7, b__law_do_put⟩
  | 75 => some ⟨2, 6, b__law_do_pile⟩
  | 76 => some ⟨3, 10, b__law_do_place⟩
  | 77 => some ⟨3, 7, b__law_do⟩
  | 78 => some ⟨3, 12, b__law_call⟩
  | 79 => some ⟨1, 13, b_law_3⟩
  | 80 => some ⟨3, 6, b__law_told_4⟩
  | 81 => some ⟨3, 12, b__law_goes⟩
  | 82 => some ⟨1, 17, b_law_4⟩
  | 83 => some ⟨5, 15, b__law_filled⟩
  | 84 => some ⟨3, 13, b__law_moved⟩
  | 85 => some ⟨1, 17, b_law_5⟩
  | 86 => some ⟨1, 4, b_Bag_twin⟩
  | 87 => some ⟨2, 5, b_first_place⟩
  | 88 => some ⟨1, 1, b_look_many⟩
  | 89 => some ⟨3, 6, b_add⟩
  | 90 => some ⟨3, 9, b_drop⟩
  | 91 => some ⟨3, 3, b_room_for⟩
  | 92 => some ⟨2, 5, b__law_place⟩
  | 93 => some ⟨3, 9, b__law_add⟩
  | 94 => some ⟨3, 10, b__law_drop⟩
  | 95 => some ⟨1, 2, b__law_twin⟩
  | 96 => some ⟨4, 7, b__law_told_5⟩
  | 97 => some ⟨1, 12, b_law_6⟩
  | 98 => some ⟨2, 3, b__law_others⟩
  | 99 => some ⟨1, 14, b_law_7⟩
  | 100 => some ⟨1, 5, b_packed_kinds⟩
  | 101 => some ⟨1, 3, b_tidy⟩
  | 102 => some ⟨1, 6, b__law_tidy⟩
  | 103 => some ⟨1, 10, b_law_8⟩
  | 104 => some ⟨3, 6, b_shift⟩
  | 105 => some ⟨2, 3, b_shift_all⟩
  | 106 => some ⟨3, 6, b__law_told_6⟩
  | 107 => some ⟨3, 6, b__law_shift⟩
  | 108 => some ⟨1, 15, b_law_9⟩
  | 109 => some ⟨2, 9, b__law_like⟩
  | 110 => some ⟨1, 14, b_law_10⟩
  | 111 => some ⟨2, 2, b_Hand___init__⟩
  | 112 => some ⟨1, 1, b_Hand_held⟩
  | 113 => some ⟨4, 4, b_Hand_hold⟩
  | 114 => some ⟨1, 2, b_Hand_turn_on⟩
  | 115 => some ⟨3, 7, b_Hand_take_up⟩
  | 116 => some ⟨3, 10, b_Hand_lay_down⟩
  | 117 => some ⟨3, 4, b_Hand_press⟩
  | 118 => some ⟨3, 4, b_Hand_press_one⟩
  | 119 => some ⟨2, 6, b_Hand_spread⟩
  | 120 => some ⟨1, 1, b__law_held⟩
  | 122 => some ⟨4, 5, b__law_onto⟩
  | 123 => some ⟨4, 8, b__law_lay⟩
  | 124 => some ⟨5, 7, b__law_press⟩
  | 125 => some ⟨3, 8, b__law_spread⟩
  | 126 => some ⟨2, 3, b__law_turn_on⟩
  | 127 => some ⟨3, 6, b__law_told_7⟩
  | 128 => some ⟨5, 13, b__law_turn⟩
  | 129 => some ⟨1, 10, b_law_11⟩
  | 130 => some ⟨4, 9, b__law_crowded⟩
  | 131 => some ⟨1, 21, b_law_12⟩
  | 132 => some ⟨4, 4, b_look_packing⟩
  | 133 => some ⟨4, 11, b_spots⟩
  | 134 => some ⟨2, 9, b_laid⟩
  | 135 => some ⟨4, 6, b_packing⟩
  | 136 => some ⟨2, 9, b_count_ways⟩
  | 137 => some ⟨4, 5, b_ways⟩
  | 138 => some ⟨5, 8, b__law_told_8⟩
  | 139 => some ⟨4, 17, b__law_ways⟩
  | 140 => some ⟨1, 15, b_law_13⟩
  | 141 => some ⟨1, 17, b_law_14⟩
  | 142 => some ⟨1, 12, b_law_15⟩
  | 143 => some ⟨3, 6, b_look_recipe⟩
  | 144 => some ⟨3, 5, b_most_times⟩
  | 145 => some ⟨3, 7, b_craft_once⟩
  | 146 => some ⟨4, 5, b_craft⟩
  | 147 => some ⟨2, 6, b__law_recipe⟩
  | 148 => some ⟨3, 6, b__law_craft_once⟩
  | 149 => some ⟨5, 8, b__law_told_9⟩
  | 150 => some ⟨2, 3, b__law_bad⟩
  | 151 => some ⟨1, 16, b_law_16⟩
  | 152 => some ⟨2, 5, b__law_whole⟩
  | 153 => some ⟨3, 5, b__law_turned⟩
  | 154 => some ⟨1, 14, b_law_17⟩
  | 155 => some ⟨1, 20, b_law_18⟩
  | 156 => some ⟨3, 5, b_Slots___init__⟩
  | 157 => some ⟨2, 2, b_Slots_need⟩
  | 158 => some ⟨1, 1, b_Slots_names⟩
  | 159 => some ⟨2, 2, b_Slots_worn⟩
  | 160 => some ⟨4, 7, b_Slots_wear⟩
  | 161 => some ⟨3, 3, b_Slots_doff⟩
  | 162 => some ⟨3, 7, b_Slots_wear_first⟩
  | 163 => some ⟨1, 2, b_Slots_weight⟩
  | 164 => some ⟨5, 8, b__law_told_10⟩
  | 165 => some ⟨3, 6, b__law_wear⟩
  | 166 => some ⟨4, 8, b__law_due_2⟩
  | 167 => some ⟨1, 16, b_law_19⟩
  | 168 => some ⟨3, 6, b__law_whole_2⟩
  | 169 => some ⟨1, 21, b_law_20⟩
  | 170 => some ⟨1, 8, b_written⟩
  | 171 => some ⟨1, 2, b_number_in⟩
  | 172 => some ⟨2, 10, b_woken⟩
  | 173 => some ⟨2, 5, b__law_told_11⟩
  | 174 => some ⟨1, 4, b__law_text⟩
  | 175 => some ⟨3, 7, b__law_bent⟩
  | 176 => some ⟨1, 2, b__law_number⟩
  | 177 => some ⟨2, 13, b__law_is_right⟩
  | 178 => some ⟨1, 12, b_law_21⟩
  | 179 => some ⟨2, 9, b__law_sound⟩
  | 180 => some ⟨1, 6, b__law_whole_3⟩
  | 181 => some ⟨4, 9, b__law_by_hand⟩
  | 182 => some ⟨5, 16, b__law_by_pile⟩
  | 183 => some ⟨4, 9, b__law_by_kind⟩
  | 184 => some ⟨1, 14, b_law_22⟩
  | _ => none
end Law

set_option Elab.async false
set_option linter.all false
set_option maxRecDepth 100000
set_option maxHeartbeats 400000
set_option autoImplicit false
/-! P0: what helps to run the mini language on data that are not written out. -/
namespace M
/-! plain data stay as they are -/
mutual
theorem frz_plain {s : S} {n : Nat} : ∀ {k m : Nat} {d : D}, plainD k d = true → k ≤ m → frz s n m d = some d
  | _, 0, .non, _, _ => rfl
  | _, 0, .bl _, _, _ => rfl
  | _, 0, .int _, _, _ => rfl
  | _, 0, .str _, _, _ => rfl
  | _, _ + 1, .non, _, _ => rfl
  | _, _ + 1, .bl _, _, _ => rfl
  | _, _ + 1, .int _, _, _ => rfl
  | _, _ + 1, .str _, _, _ => rfl
  | 0, _, .tup _, h, _ => by simp [plainD] at h
  | 0, _, .lst _, h, _ => by simp [plainD] at h
  | k + 1, 0, .tup _, _, h => by omega
  | k + 1, 0, .lst _, _, h => by omega
  | k + 1, m + 1, .tup xs, h, hm => by
    have := frzs_plain (s := s) (n := n) (k := k) (m := m) (xs := xs) (by simpa [plainD] using h) (by omega)
    simp [frz, this]
  | k + 1, m + 1, .lst xs, h, hm => by
    have := frzs_plain (s := s) (n := n) (k := k) (m := m) (xs := xs) (by simpa [plainD] using h) (by omega)
    simp [frz, this]
  | _, _, .dct _ _ _, h, _ => by simp [plainD] at h
  | _, _, .ins _ _ _, h, _ => by simp [plainD] at h
  | _, _, .rg _, h, _ => by simp [plainD] at h
  | _, _, .exc _, h, _ => by simp [plainD] at h
  | _, _, .scr _, h, _ => by simp [plainD] at h
theorem frzs_plain {s : S} {n : Nat} : ∀ {k m : Nat} {xs : List D}, plainDs k xs = true → k ≤ m → mapO (frz s n m) xs = some xs
  | _, _, [], _, _ => rfl
  | k, m, x :: xs, h, hm => by
    rw [plainDs, Bool.and_eq_true] at h
    simp [mapO, frz_plain h.1 hm, frzs_plain h.2 hm]
end
theorem dropTo_same (s : S) (bs : List Nat) (new : List CS) : dropTo s ⟨bs, s.cs ++ new⟩ = s := by
  unfold dropTo
  simp
/-- a call by value -/
theorem fnF_ok {K : Calls} {f : Nat} {as : List D} {d d' : D} {s : S} {new : List CS} (h : K.fn f as ⟨s.cs.length :: s.bs, s.cs⟩ = .ok d ⟨s.cs.length :: s.bs, s.cs ++ new⟩) (hf : frz ⟨s.cs.length :: s.bs, s.cs ++ new⟩ s.cs.length 8 d = some d') : K.fnF f as s = .ok d' s := by
  unfold Calls.fnF
  rw [h]
  simp only [if_true, hf, dropTo_same]
theorem fnF_plain {K : Calls} {f : Nat} {as : List D} {d : D} {s : S} {new : List CS} (h : K.fn f as ⟨s.cs.length :: s.bs, s.cs⟩ = .ok d ⟨s.cs.length :: s.bs, s.cs ++ new⟩) (hp : plainD 8 d = true) : K.fnF f as s = .ok d s := fnF_ok h (frz_plain hp (Nat.le_refl 8))
theorem fnF_exc {K : Calls} {f : Nat} {as : List D} {c : Nat} {s : S} {new : List CS} (h : K.fn f as ⟨s.cs.length :: s.bs, s.cs⟩ = .exc c ⟨s.cs.length :: s.bs, s.cs ++ new⟩) : K.fnF f as s = .exc c s := by
  unfold Calls.fnF
  rw [h]
  simp only [if_true, dropTo_same]
/-- .. that changes cells -/
theorem fnF_st {K : Calls} {f : Nat} {as : List D} {d : D} {s : S} {cs' : List CS} (h : K.fn f as ⟨s.cs.length :: s.bs, s.cs⟩ = .ok d ⟨s.cs.length :: s.bs, cs'⟩) (hp : plainD 8 d = true) : K.fnF f as s = .ok d ⟨s.bs, cs'.take s.cs.length⟩ := by
  unfold Calls.fnF
  rw [h]
  simp only [if_true, frz_plain hp (Nat.le_refl 8)]
  rfl
/-- the turns of a comprehension that changes nothing -/
theorem lcL_filter {turn : D → S → R (Option D)} {s : S} {f : D → Option D} : ∀ {xs : List D}, (∀ x ∈ xs, turn x s = .ok (f x) s) → lcL turn xs s = .ok (xs.filterMap f) s
  | [], _ => rfl
  | x :: xs, h => by
    simp only [lcL, h x List.mem_cons_self, R.bind, lcL_filter fun y hy => h y (List.mem_cons_of_mem _ hy), List.filterMap_cons]
    cases f x <;> rfl
theorem lcL_map {turn : D → S → R (Option D)} {s : S} {f : D → D} {xs : List D} (h : ∀ x ∈ xs, turn x s = .ok (some (f x)) s) : lcL turn xs s = .ok (xs.map f) s := by
  rw [lcL_filter (f := fun x => some (f x)) h]
  congr 1
  induction xs with
  | nil => rfl
  | cons x xs ih => simp only [List.filterMap_cons, List.map_cons, ih fun y hy => h y (List.mem_cons_of_mem _ hy)]
/-- over items that are made of another list's -/
theorem lcL_map' {α : Type} {turn : D → S → R (Option D)} {s : S} {g : α → D} {f : α → D} {as : List α} (h : ∀ a ∈ as, turn (g a) s = .ok (some (f a)) s) : lcL turn (as.map g) s = .ok (as.map f) s := by
  induction as with
  | nil => rfl
  | cons x xs ih => simp only [List.map_cons, lcL, h x List.mem_cons_self, R.bind, ih fun y hy => h y (List.mem_cons_of_mem _ hy)]
theorem lcL_filter' {α : Type} {turn : D → S → R (Option D)} {s : S} {g : α → D} {f : α → Option D} {as : List α} (h : ∀ a ∈ as, turn (g a) s = .ok (f a) s) : lcL turn (as.map g) s = .ok (as.filterMap f) s := by
  induction as with
  | nil => rfl
  | cons x xs ih =>
    simp only [List.map_cons, lcL, h x List.mem_cons_self, R.bind, ih fun y hy => h y (List.mem_cons_of_mem _ hy), List.filterMap_cons]
    cases f x <;> rfl
/-- a loop by its states: E, Σ of what has been gathered -/
theorem forL_fold {α β : Type} {turn : D → Env → S → F} {g : α → D} (step : β → α → β) (E : β → Env) (Sg : β → S) : ∀ {as : List α} {b : β}, (∀ b a, a ∈ as → turn (g a) (E b) (Sg b) = .nx (E (step b a)) (Sg (step b a))) → forL turn (as.map g) (E b) (Sg b) = .nx (E (as.foldl step b)) (Sg (as.foldl step b))
  | [], _, _ => rfl
  | a :: as, b, h => by
    simp only [List.map_cons, forL, h b a List.mem_cons_self, List.foldl_cons]
    exact forL_fold step E Sg fun b a ha => h b a (List.mem_cons_of_mem _ ha)
/-- a loop by an invariant over the places -/
theorem forL_inv {turn : D → Env → S → F} {xs : List D} (I : Nat → Env → S → Prop) {e : Env} {s : S} (h0 : I 0 e s) (h : ∀ i d e s, xs[i]? = some d → I i e s → ∃ e' s', turn d e s = .nx e' s' ∧ I (i + 1) e' s') : ∃ e' s', forL turn xs e s = .nx e' s' ∧ I xs.length e' s' := by
  induction xs generalizing I e s with
  | nil => exact ⟨e, s, rfl, h0⟩
  | cons x xs ih =>
    obtain ⟨e1, s1, h1, h2⟩ := h 0 x e s rfl h0
    obtain ⟨e2, s2, h3, h4⟩ := ih (fun i => I (i + 1)) h2 fun i d e s hd hI => h (i + 1) d e s (by simpa using hd) hI
    exact ⟨e2, s2, by simp only [forL, h1, h3], h4⟩
end M

set_option Elab.async false
set_option linter.all false
set_option maxRecDepth 100000
set_option maxHeartbeats 400000
set_option autoImplicit false
/-! P1: the evaluator's equations, for simp; simp looks at what runs first alone. -/
namespace M.Ev
open M
/-- a mark that keeps simp out of what runs later -/
inductive Tag {γ : Type} (f : γ) : Type
  | mk
def _root_.M.R.bd {α β : Type} (x : R α) (f : α → S → R β) (_ : Tag f := .mk) : R β := x.bind f
def _root_.M.R.sd {α : Type} (x : R α) (e : Env) (f : α → S → F) (_ : Tag f := .mk) : F := x.st e f
/-- what a name holds -/
def varR (o : Option (Option D)) (s : S) : R D := match o with
  | some (some d) => .ok d s
  | _ => .bad
@[scoped simp] theorem varR_some {d : D} {s : S} : varR (some (some d)) s = .ok d s := (rfl)
def ifR {α : Type} (b : Bool) (x y : R α) (_ : Tag (x, y) := .mk) : R α := match b with
  | true => x
  | false => y
def ifF (b : Bool) (x y : F) (_ : Tag (x, y) := .mk) : F := match b with
  | true => x
  | false => y
@[scoped simp] theorem ifR_t {α : Type} {x y : R α} : ifR true x y = x := (rfl)
@[scoped simp] theorem ifR_f {α : Type} {x y : R α} : ifR false x y = y := (rfl)
@[scoped simp] theorem ifF_t {x y : F} : ifF true x y = x := (rfl)
@[scoped simp] theorem ifF_f {x y : F} : ifF false x y = y := (rfl)
theorem if_R {α : Type} {b : Bool} {x y : R α} : (if b = true then x else y) = ifR b x y := by cases b <;> rfl
theorem if_F {b : Bool} {x y : F} : (if b = true then x else y) = ifF b x y := by cases b <;> rfl
theorem if_Rd {α : Type} {p : Prop} [Decidable p] {x y : R α} : (if p then x else y) = ifR (decide p) x y := by by_cases h : p <;> simp [h]
theorem if_Fd {p : Prop} [Decidable p] {x y : F} : (if p then x else y) = ifF (decide p) x y := by by_cases h : p <;> simp [h]
def _root_.M.F.go (r : F) (k : Env → S → F) (_ : Tag k := .mk) : F := match r with
  | .nx e s => k e s
  | r => r
/-- what is walked -/
def onIt {β : Type} (bad : β) (o : Option (List D × Option Nat)) (f : List D → β) (_ : Tag f := .mk) : β := match o with
  | some (xs, none) => f xs
  | _ => bad
@[scoped simp] theorem onIt_some {β : Type} {bad : β} {xs : List D} {f : List D → β} : onIt bad (some (xs, none)) f = f xs := (rfl)
def onEnv {β : Type} (bad : β) (o : Option Env) (f : Env → β) (_ : Tag f := .mk) : β := match o with
  | some e => f e
  | none => bad
@[scoped simp] theorem onEnv_some {β : Type} {bad : β} {e : Env} {f : Env → β} : onEnv bad (some e) f = f e := (rfl)
def onTup {β : Type} (bad : β) (d : D) (f : List D → β) (_ : Tag f := .mk) : β := match d with
  | .tup ds => f ds
  | _ => bad
@[scoped simp] theorem onTup_tup {β : Type} {bad : β} {ds : List D} {f : List D → β} : onTup bad (.tup ds) f = f ds := (rfl)
/-- a turn of a loop -/
def loopT (K : Calls) (tg : Tg) (body : List DS) : D → Env → S → F := fun x e s => onEnv .bad (bindT s tg x e) fun e => evSs K body e s
/-- a turn of a comprehension -/
def lcT (K : Calls) (tg : Tg) (cond : Option DE) (elt : DE) (own : List Nat) (e : Env) : D → S → R (Option D) := fun x s => onEnv .bad (bindT s tg x (wipe e own)) fun e =>
  (match cond with
    | none => R.ok true s
    | some c => tru (evE K c e s)).bd fun b s => ifR b ((evE K elt e s).bd fun y s => .ok (some y) s) (.ok none s)
section
variable {K : Calls} {e : Env} {s : S} {a b c t : DE} {es : List DE} {x y : D}
@[scoped simp] theorem x_con {d : D} : evE K (.con d) e s = .ok d s := (rfl)
@[scoped simp] theorem x_tup  : evE K (.tup es) e s = (evEs K es e s).bd fun ds s => ifR (decide (ds.length ≤ LIM)) (.ok (.tup ds) s) .bad := by simp only [M.R.bd, M.R.sd, ← if_Rd]; exact (rfl)
@[scoped simp] theorem x_lstV  : evE K (.lst false es) e s = (evEs K es e s).bd fun ds s => ifR (decide (ds.length ≤ LIM)) (.ok (.lst ds) s) .bad := by simp only [M.R.bd, M.R.sd, ← if_Rd]; exact (rfl)
@[scoped simp] theorem x_lstC  : evE K (.lst true es) e s = (evEs K es e s).bd fun ds s => ifR (decide (ds.length ≤ LIM)) (.ok (.rg s.cs.length) (newCell s (.lst ds))) .bad := by simp only [M.R.bd, M.R.sd, ← if_Rd]; exact (rfl)
@[scoped simp] theorem x_dct {t : Bool} {ks : List Tx} : evE K (.dct t ks es) e s = (evEs K es e s).bd fun ds s => .ok (.rg s.cs.length) (newCell s (.dct t (ks.map Ky.s |>.zip ds))) := (rfl)
@[scoped simp] theorem x_bin {o : BOp} : evE K (.bin o a b) e s = (evE K a e s).bd fun x s => (evE K b e s).bd fun y s => optR (binD s o x y) s := (rfl)
def catR (s : S) (o p : Option (List D)) : R D := match o, p with
  | some xs, some ys => ifR (decide (xs.length + ys.length ≤ LIM)) (.ok (.rg s.cs.length) (newCell s (.lst (xs ++ ys)))) .bad
  | _, _ => .bad
@[scoped simp] theorem x_cat : evE K (.cat a b) e s = (evE K a e s).bd fun x s => (evE K b e s).bd fun y s => catR s (lstOf s x) (lstOf s y) := by simp only [M.R.bd, M.R.sd, catR, ← if_Rd]; exact (rfl)
@[scoped simp] theorem catR_some {xs ys : List D} : catR s (some xs) (some ys) = ifR (decide (xs.length + ys.length ≤ LIM)) (.ok (.rg s.cs.length) (newCell s (.lst (xs ++ ys)))) .bad := (rfl)
@[scoped simp] theorem x_cmp {o : COp} : evE K (.cmp o a b) e s = (evE K a e s).bd fun x s => (evE K b e s).bd fun y s => optR ((cmpD s o x y).map .bl) s := (rfl)
@[scoped simp] theorem x_chain {o p : COp} : evE K (.chain o p a b c) e s = (evE K a e s).bd fun x s => (evE K b e s).bd fun y s => (optR (cmpD s o x y) s).bd fun t s =>
      ifR t ((evE K c e s).bd fun z s => optR ((cmpD s p y z).map .bl) s) (.ok (.bl false) s) := by simp only [M.R.bd, M.R.sd, ← if_R]; exact (rfl)
@[scoped simp] theorem x_not  : evE K (.not a) e s = (tru (evE K a e s)).bd fun t s => .ok (.bl !t) s := (rfl)
@[scoped simp] theorem x_and  : evE K (.and a b) e s = (evE K a e s).bd fun x s => (optR (truD s x) s).bd fun t s => ifR t (evE K b e s) (.ok x s) := by simp only [M.R.bd, M.R.sd, ← if_R]; exact (rfl)
@[scoped simp] theorem x_or  : evE K (.or a b) e s = (evE K a e s).bd fun x s => (optR (truD s x) s).bd fun t s => ifR t (.ok x s) (evE K b e s) := by simp only [M.R.bd, M.R.sd, ← if_R]; exact (rfl)
@[scoped simp] theorem x_ifx  : evE K (.ifx t a b) e s = (tru (evE K t e s)).bd fun t s => ifR t (evE K a e s) (evE K b e s) := by simp only [M.R.bd, M.R.sd, ← if_R]; exact (rfl)
@[scoped simp] theorem x_sub  : evE K (.sub a b) e s = (evE K a e s).bd fun x s => (evE K b e s).bd fun i s => optR (subD s x i) s := (rfl)
@[scoped simp] theorem x_slc {lo hi : Option DE} : evE K (.slc a lo hi) e s = (evE K a e s).bd fun x s => (evO K lo e s).bd fun lo s => (evO K hi e s).bd fun hi s => optR (slcD s x lo hi) s := (rfl)
@[scoped simp] theorem x_onone : evO K none e s = .ok none s := (rfl)
def intR (d : D) (s : S) : R (Option D) := match d with
  | .int i => .ok (some (.int i)) s
  | _ => .bad
@[scoped simp] theorem intR_int {i : Int} : intR (.int i) s = .ok (some (.int i)) s := (rfl)
@[scoped simp] theorem x_osome : evO K (some a) e s = (evE K a e s).bd intR := (rfl)
@[scoped simp] theorem x_rev  : evE K (.rev a) e s = (evE K a e s).bd fun x s => optR (revD s x) s := (rfl)
@[scoped simp] theorem x_att {c : Nat} {f : Tx} : evE K (.att c a f) e s = (evE K a e s).bd fun x s => optR ((insOf s x).bind fun p => if p.1 = c then p.2.lookup f else none) s := (rfl)
@[scoped simp] theorem x_call {f : Nat} : evE K (.call true f es) e s = (evEs K es e s).bd fun ds s => K.fnF f ds s := (rfl)
@[scoped simp] theorem x_callC {f : Nat} : evE K (.call false f es) e s = (evEs K es e s).bd fun ds s => K.fn f ds s := (rfl)
def methR (o : Option (Nat × List (Tx × D))) (c : Nat) (m : Tx) (k : R D) (_ : Tag k := .mk) : R D := match o with
  | some (c', fs) => ifR (decide (c' = c ∧ fs.lookup m = none)) k .bad
  | none => .bad
@[scoped simp] theorem methR_some {c' c : Nat} {fs : List (Tx × D)} {m : Tx} {k : R D} : methR (some (c', fs)) c m k = ifR (decide (c' = c ∧ fs.lookup m = none)) k .bad := (rfl)
@[scoped simp] theorem x_meth {fz : Bool} {c f : Nat} {m : Tx} : evE K (.meth fz c f m a es) e s = (evE K a e s).bd fun x s => methR (insOf s x) c m ((evEs K es e s).bd fun ds s => K.go fz f (x :: ds) s) := by simp only [M.R.bd, M.R.sd, methR, ← if_Rd]; exact (rfl)
@[scoped simp] theorem go_true {f : Nat} {ds : List D} : K.go true f ds s = K.fnF f ds s := (rfl)
@[scoped simp] theorem go_false {f : Nat} {ds : List D} : K.go false f ds s = K.fn f ds s := (rfl)
def madeR (n : Nat) (d : D) (s : S) : R D := match d with
  | .non => .ok (.rg n) s
  | _ => .bad
@[scoped simp] theorem madeR_non {n : Nat} : madeR n .non s = .ok (.rg n) s := (rfl)
@[scoped simp] theorem x_make {c f : Nat} : evE K (.make c f es) e s = (evEs K es e s).bd fun ds s => (K.fn f (.rg s.cs.length :: ds) (newCell s (.ins c []))).bd (madeR s.cs.length) := (rfl)
@[scoped simp] theorem x_bi {b : BI} : evE K (.bi b es) e s = (evEs K es e s).bd fun ds s => optR (callB s b ds) s := (rfl)
@[scoped simp] theorem x_bm {m : BM} : evE K (.bm m a es) e s = (evE K a e s).bd fun x s => ifR (bmOk s m x) ((evEs K es e s).bd fun ds s => callM s m x ds) .bad := by simp only [M.R.bd, M.R.sd, ← if_R]; exact (rfl)
@[scoped simp] theorem x_keysL {srt : Bool} : evE K (.keysL srt a) e s = (evE K a e s).bd fun x s => optR ((keysOf s x).bind fun ks => if srt then (if canSort ks && decide (ks.length ≤ 1000) then some (.lst (sortD ks)) else none) else some (.lst ks)) s := (rfl)
@[scoped simp] theorem x_nil  : evEs K [] e s = .ok [] s := (rfl)
@[scoped simp] theorem x_cons  : evEs K (a :: es) e s = (evE K a e s).bd fun d s => (evEs K es e s).bd fun ds s => .ok (d :: ds) s := (rfl)
theorem x_var {i : Nat} {d : D} (h : e[i]? = some (some d)) : evE K (.var i) e s = .ok d s := by simp [evE, h]
@[scoped simp] theorem x_v {i : Nat} : evE K (.var i) e s = varR e[i]? s := (rfl)
def isR (c : Option Nat) (d : D) (s : S) : R D := match d with
  | .exc k => if k < 16 then .ok (.bl (match c with | some c => decide (c = k) | none => true)) s else .bad
  | _ => .bad
@[scoped simp] theorem x_isI {c : Option Nat} : evE K (.isI c a) e s = (evE K a e s).bd (isR c) := (rfl)
theorem x_lc0 {cell : Bool} {tg : Tg} {k : IK} {cond : Option DE} {elt : DE} {own : List Nat} : evE K (.lc cell false tg k es cond elt own) e s = (evEs K es e s).bd fun ds s => onIt .bad (items s k ds) fun xs => ifR (decide (xs.length ≤ LIM))
          ((noX (lcL (lcT K tg cond elt own e) xs s)).bd fun ys s =>
          ifR cell (.ok (.rg s.cs.length) (newCell s (.lst ys))) (.ok (.lst ys) s)) .bad := by
  have hT : lcT K tg cond elt own e = fun x s => match bindT s tg x (wipe e own) with
    | some e => (match cond with
      | none => R.ok true s
      | some c => tru (evE K c e s)).bind fun b s => if b = true then (evE K elt e s).bind fun y s => .ok (some y) s else .ok none s
    | none => .bad := by
    funext x s
    simp only [lcT, if_R, M.R.bd]
    rfl
  rw [hT]
  simp only [M.R.bd, onIt, ← if_Rd]
  simp only [evE, ← if_R]
  simp only [Bool.false_eq_true, if_false]
  try rfl
@[scoped simp] theorem x_lc {cell : Bool} {tg : Tg} {k : IK} {cond : Option DE} {elt : DE} {own : List Nat} : evE K (.lc cell false tg k es cond elt own) e s = (evEs K es e s).bd fun ds s => onIt .bad (items s k ds) fun xs => ifR (decide (xs.length ≤ LIM))
          ((noX (lcL (lcT K tg cond elt own e) xs s)).bd fun ys s =>
          ifR cell (.ok (.rg s.cs.length) (newCell s (.lst ys))) (.ok (.lst ys) s)) .bad := x_lc0
@[scoped simp] theorem noX_ok {α : Type} {d : α} : noX (.ok d s) = .ok d s := (rfl)
/-! statements -/
@[scoped simp] theorem go_nx {e : Env} {s : S} {k : Env → S → F} : (F.nx e s).go k = k e s := (rfl)
@[scoped simp] theorem go_rt {d : D} {s : S} {k : Env → S → F} : (F.rt d s).go k = .rt d s := (rfl)
@[scoped simp] theorem go_exc {c : Nat} {e : Env} {s : S} {k : Env → S → F} : (F.exc c e s).go k = .exc c e s := (rfl)
@[scoped simp] theorem ret_nx {e : Env} {s : S} : retOf (.nx e s) = .ok .non s := (rfl)
@[scoped simp] theorem ret_rt {d : D} {s : S} : retOf (.rt d s) = .ok d s := (rfl)
@[scoped simp] theorem ret_exc {c : Nat} {e : Env} {s : S} : retOf (.exc c e s) = .exc c s := (rfl)
variable {ss : List DS} {st : DS} {ta tb : List DS}
@[scoped simp] theorem x_ss_nil : evSs K [] e s = .nx e s := (rfl)
@[scoped simp] theorem x_ss_cons : evSs K (st :: ss) e s = (evS K st e s).go (evSs K ss) := by simp only [evSs]; exact (rfl)
@[scoped simp] theorem x_set {i : Nat} : evS K (.set i a) e s = (evE K a e s).sd e fun d s => ifF (decide (i < e.length)) (.nx (e.set i (some d)) s) .bad := by simp only [M.R.bd, M.R.sd, ← if_Fd]; exact (rfl)
def nxE (o : Option Env) (s : S) : F := match o with
  | some e => .nx e s
  | none => .bad
@[scoped simp] theorem nxE_some {e : Env} : nxE (some e) s = .nx e s := (rfl)
@[scoped simp] theorem x_setT {is : List Nat} : evS K (.setT is a) e s = (evE K a e s).sd e fun d s => onTup .bad d fun ds => nxE (setAll is ds e) s := by
  simp only [evS]
  congr
@[scoped simp] theorem x_par {is : List Nat} : evS K (.par is es) e s = (evEs K es e s).sd e fun ds s => nxE (setAll is ds e) s := (rfl)
@[scoped simp] theorem x_expr : evS K (.expr a) e s = (evE K a e s).sd e fun _ s => .nx e s := (rfl)
@[scoped simp] theorem x_ret : evS K (.ret a) e s = (evE K a e s).sd e fun d s => .rt d s := (rfl)
@[scoped simp] theorem x_retN : evS K .retN e s = .rt .non s := (rfl)
@[scoped simp] theorem x_pass : evS K .pass e s = .nx e s := (rfl)
@[scoped simp] theorem x_rais {c : Nat} : evS K (.rais c) e s = .exc c e s := (rfl)
@[scoped simp] theorem x_ite : evS K (.ite t ta tb) e s = (tru (evE K t e s)).sd e fun t s => ifF t (evSs K ta e s) (evSs K tb e s) := by simp only [M.R.bd, M.R.sd, ← if_F]; exact (rfl)
@[scoped simp] theorem x_loop0 {tg : Tg} {k : IK} : evS K (.loop false tg k es ta) e s = (evEs K es e s).sd e fun ds s => onIt .bad (items s k ds) fun xs => forL (loopT K tg ta) xs e s := by
  simp only [evS]
  rfl
/-! stores -/
def setAC (c : Nat) (f : Tx) (d : D) (e : Env) (s : S) (k : Nat) (o : Option CS) : F := match o with
  | some ⟨false, .ins c' fs⟩ => ifF (decide (c' = c ∧ mayPut s k d = true ∧ fs.length < 100)) (.nx e (setCell s k (.ins c (putF f d fs)))) .bad
  | _ => .bad
def setAF (c : Nat) (f : Tx) (d : D) (e : Env) (s : S) (x : D) : F := match x with
  | .rg k => setAC c f d e s k s.cs[k]?
  | _ => .bad
@[scoped simp] theorem setAF_rg {c : Nat} {f : Tx} {d : D} {e : Env} {s : S} {k : Nat} : setAF c f d e s (.rg k) = setAC c f d e s k s.cs[k]? := (rfl)
@[scoped simp] theorem setAC_ins {c c' : Nat} {f : Tx} {d : D} {e : Env} {s : S} {k : Nat} {fs : List (Tx × D)} : setAC c f d e s k (some ⟨false, .ins c' fs⟩) = ifF (decide (c' = c ∧ mayPut s k d = true ∧ fs.length < 100)) (.nx e (setCell s k (.ins c (putF f d fs)))) .bad := (rfl)
@[scoped simp] theorem x_setA {c : Nat} {a v : DE} {f : Tx} : evS K (.setA c a f v) e s = (evE K v e s).sd e fun d s => (evE K a e s).sd e fun x s => setAF c f d e s x := by
  simp only [M.R.sd, evS]
  congr
  funext d s
  congr
  funext x s
  cases x <;> first | rfl | (simp only [setAF, setAC, ← if_Fd]; done) | (simp only [setAF, setAC, ← if_Fd]; rfl)
def setIC (d i : D) (e : Env) (s : S) (k : Nat) (o : Option CS) : F := match o with
  | some ⟨false, .dct t kvs⟩ => match keyOf t i with
    | some q => ifF (mayPut s k d && decide (kvs.length < LIM)) (.nx e (setCell s k (.dct t (putK kvs q d)))) .bad
    | none => .bad
  | some ⟨false, .lst xs⟩ => match i with
    | .int i => match ixN xs.length i with
      | some j => ifF (mayPut s k d) (.nx e (setCell s k (.lst (xs.set j d)))) .bad
      | none => .bad
    | _ => .bad
  | _ => .bad
def setIF (d i : D) (e : Env) (s : S) (x : D) : F := match x with
  | .rg k => setIC d i e s k s.cs[k]?
  | _ => .bad
@[scoped simp] theorem setIF_rg {d i : D} {e : Env} {s : S} {k : Nat} : setIF d i e s (.rg k) = setIC d i e s k s.cs[k]? := (rfl)
theorem setIC_dct {d i : D} {e : Env} {s : S} {k : Nat} {t : Bool} {kvs : List (Ky × D)} {q : Ky} (h : keyOf t i = some q) (hm : mayPut s k d = true) (hl : kvs.length < LIM) : setIC d i e s k (some ⟨false, .dct t kvs⟩) = .nx e (setCell s k (.dct t (putK kvs q d))) := by
  unfold setIC
  simp only [h, hm, decide_eq_true hl, Bool.and_self, ifF_t]
theorem setIC_lst {d : D} {i : Nat} {e : Env} {s : S} {k : Nat} {xs : List D} (h : i < xs.length) (hm : mayPut s k d = true) : setIC d (.int (i : Nat)) e s k (some ⟨false, .lst xs⟩) = .nx e (setCell s k (.lst (xs.set i d))) := by
  have : ixN xs.length (i : Int) = some i := by unfold ixN; rw [if_pos (by omega), if_pos (by omega)]; rfl
  unfold setIC
  simp only [this, hm, ifF_t]
@[scoped simp] theorem x_setI {a i v : DE} : evS K (.setI a i v) e s = (evE K v e s).sd e fun d s => (evE K a e s).sd e fun x s => (evE K i e s).sd e fun i s => setIF d i e s x := by
  simp only [M.R.sd, evS]
  congr
  funext d s
  congr
  funext x s
  congr
  funext i s
  cases x <;> first | rfl | (simp only [setIF, setIC, ← if_F]; done) | (simp only [setIF, setIC, ← if_F]; rfl)
/-- an error that is caught -/
def tryF (r : F) (slot : Option Nat) (suite : Env → S → F) (_ : Tag suite := .mk) : F := match r with
  | .exc c e' s' => if c < 16 then match slot with
      | none => suite e' s'
      | some i => if i < e'.length then match suite (e'.set i (some (.exc c))) s' with
          | .nx e s => .nx (e.set i none) s
          | .rt d s => .rt d s
          | _ => .bad
        else .bad
      else .bad
  | r => r
/-- behind the suite -/
def wipeF (i : Nat) (r : F) : F := match r with
  | .nx e s => .nx (e.set i none) s
  | .rt d s => .rt d s
  | _ => .bad
@[scoped simp] theorem wipeF_nx {i : Nat} {e : Env} {s : S} : wipeF i (.nx e s) = .nx (e.set i none) s := (rfl)
@[scoped simp] theorem wipeF_rt {i : Nat} {d : D} {s : S} : wipeF i (.rt d s) = .rt d s := (rfl)
@[scoped simp] theorem tryF_nx {slot : Option Nat} {f : Env → S → F} {e : Env} {s : S} : tryF (.nx e s) slot f = .nx e s := (rfl)
@[scoped simp] theorem tryF_rt {slot : Option Nat} {f : Env → S → F} {d : D} {s : S} : tryF (.rt d s) slot f = .rt d s := (rfl)
theorem tryF_n {f : Env → S → F} {e : Env} {s : S} {c : Nat} (h : c < 16) : tryF (.exc c e s) none f = f e s := by unfold tryF; simp only [h, if_true]
theorem tryF_s {f : Env → S → F} {e : Env} {s : S} {c i : Nat} (h : c < 16) (hi : i < e.length) : tryF (.exc c e s) (some i) f = wipeF i (f (e.set i (some (.exc c))) s) := by unfold tryF; simp only [h, hi, if_true]; rfl
theorem x_try {K : Calls} {e : Env} {s : S} {body suite : List DS} {slot : Option Nat} : evS K (.tryE body slot suite) e s = tryF (evSs K body e s) slot fun e s => evSs K suite e s := by
  rw [evS]; rfl
theorem run_of {T : Nat → Option FD} {k f : Nat} {as : List D} {fd : FD} (h : T f = some fd) (hl : as.length = fd.np) : runF T (k + 1) f as s = retOf (evSs (KF T k) fd.body (as.map some ++ List.replicate (fd.nl - fd.np) none) s) := by
  simp only [runF, h, hl, if_true]
@[scoped simp] theorem st_ok {α : Type} {d : α} {s : S} {env : Env} {f : α → S → F} : (R.ok d s).sd env f = f d s := (rfl)
@[scoped simp] theorem st_exc {α : Type} {c : Nat} {s : S} {env : Env} {f : α → S → F} : (R.exc c s : R α).sd env f = .exc c env s := (rfl)
@[scoped simp] theorem bind_ok {α β : Type} {d : α} {s : S} {f : α → S → R β} : (R.ok d s).bd f = f d s := (rfl)
@[scoped simp] theorem bind_exc {α β : Type} {c : Nat} {s : S} {f : α → S → R β} : (R.exc c s : R α).bd f = .exc c s := (rfl)
@[scoped simp] theorem optR_some {α : Type} {d : α} {s : S} : optR (some d) s = .ok d s := (rfl)
theorem tru_ok {d : D} {s : S} : tru (.ok d s) = optR (truD s d) s := rfl
end
end M.Ev

set_option Elab.async false
set_option linter.all false
set_option maxRecDepth 100000
set_option maxHeartbeats 400000
set_option autoImplicit false
/-! P2: comprehensions run. -/
namespace M.Ev
open M
section
variable {K : Calls} {e : Env} {s : S} {α : Type} {tg : Tg} {k : IK} {es : List DE} {elt c : DE} {own : List Nat} {ds : List D} {g f : α → D} {as : List α}
/-! the turns of a comprehension -/
@[scoped simp] theorem bindT_one {i : Nat} {d : D} : bindT s ⟨[i], false⟩ d e = if i < e.length then some (e.set i (some d)) else none := (rfl)
@[scoped simp] theorem bindT_tup {is : List Nat} {ds : List D} : bindT s ⟨is, true⟩ (.tup ds) e = setAll is ds e := (rfl)
@[scoped simp] theorem setAll_nil : setAll [] [] e = some e := (rfl)
@[scoped simp] theorem setAll_cons {i : Nat} {is : List Nat} {d : D} {ds : List D} : setAll (i :: is) (d :: ds) e = if i < e.length then setAll is ds (e.set i (some d)) else none := (rfl)
@[scoped simp] theorem wipe_nil : wipe e [] = e := (rfl)
@[scoped simp] theorem wipe_cons {i : Nat} {is : List Nat} : wipe e (i :: is) = (wipe e is).set i none := (rfl)
theorem lcT_none {x : D} : lcT K tg none elt own e x s = onEnv .bad (bindT s tg x (wipe e own)) fun e => (evE K elt e s).bd fun y s => .ok (some y) s := rfl
theorem lcT_some {x : D} : lcT K tg (some c) elt own e x s = onEnv .bad (bindT s tg x (wipe e own)) fun e =>
  (tru (evE K c e s)).bd fun b s => ifR b ((evE K elt e s).bd fun y s => .ok (some y) s) (.ok none s) := rfl
/-- a turn of a loop -/
theorem loopT_def {K : Calls} {tg : Tg} {body : List DS} {x : D} {e : Env} {s : S} : loopT K tg body x e s = onEnv .bad (bindT s tg x e) fun e => evSs K body e s := rfl
def consO (o : Option D) (ys : List D) : List D := match o with
  | some y => y :: ys
  | none => ys
@[scoped simp] theorem consO_some {y : D} {ys : List D} : consO (some y) ys = y :: ys := (rfl)
@[scoped simp] theorem consO_none {ys : List D} : consO none ys = ys := (rfl)
theorem lc_nil {turn : D → S → R (Option D)} {s : S} : lcL turn [] s = .ok [] s := (rfl)
theorem lc_cons {turn : D → S → R (Option D)} {s : S} {x : D} {xs : List D} : lcL turn (x :: xs) s = (turn x s).bd fun o s => (lcL turn xs s).bd fun ys s => .ok (consO o ys) s := (rfl)
theorem lcMap {turn : D → S → R (Option D)} (h3 : ∀ a ∈ as, turn (g a) s = .ok (some (f a)) s) : lcL turn (as.map g) s = .ok (as.map f) s := lcL_map' h3
theorem lcFil {turn : D → S → R (Option D)} {q : α → Bool} (h3 : ∀ a ∈ as, turn (g a) s = .ok (if q a = true then some (f a) else none) s) : lcL turn (as.map g) s = .ok ((as.filter q).map f) s := by
  rw [lcL_filter' (f := fun a => if q a = true then some (f a) else none) h3]
  congr 1
  clear h3
  induction as with
  | nil => rfl
  | cons a as ih =>
    by_cases hq : q a = true
    · simp [List.filterMap_cons, List.filter_cons, hq, ih]
    · simp [List.filterMap_cons, List.filter_cons, hq, ih]
theorem join_nil : ∀ (xs : List Tx), joinT [] xs = xs.flatten
  | [] => rfl
  | [x] => by simp [joinT]
  | x :: y :: r => by
    simp only [joinT, List.append_nil, List.flatten_cons]
    rw [join_nil (y :: r), List.flatten_cons]
theorem bls_map {α : Type} {q : α → Bool} : ∀ as : List α, blsOf (as.map fun a => D.bl (q a)) = some (as.map q)
  | [] => rfl
  | a :: as => by simp [blsOf, bls_map as]
theorem all_map {α : Type} {s : S} {q : α → Bool} {as : List α} : callB s .all [.lst (as.map fun a => D.bl (q a))] = some (.bl (as.all q)) := by
  show ((blsOf (as.map fun a => D.bl (q a))).map fun bs => D.bl (bs.all id)) = _
  rw [bls_map]
  simp [List.all_map]
@[scoped simp] theorem all_tt {α : Type} {l : List α} : (l.all fun _ => true) = true := List.all_eq_true.mpr fun _ _ => rfl
theorem any_map {α : Type} {s : S} {q : α → Bool} {as : List α} : callB s .any [.lst (as.map fun a => D.bl (q a))] = some (.bl (as.any q)) := by
  show ((blsOf (as.map fun a => D.bl (q a))).map fun bs => D.bl (bs.any id)) = _
  rw [bls_map]
  simp [List.any_map]
end
end M.Ev

set_option Elab.async false
set_option linter.all false
set_option maxRecDepth 100000
set_option maxHeartbeats 1000000
set_option autoImplicit false
/-! P3: what the built-ins give, for simp; loops; pairs. -/
namespace M.Ev
open M
section
variable {s : S} {i j : Int} {a b : Tx} {x y : D} {xs ys : List D} {K : Calls} {e : Env}
@[scoped simp] theorem b_add : binD s .add (.int i) (.int j) = some (.int (i + j)) := (rfl)
@[scoped simp] theorem b_sub : binD s .sub (.int i) (.int j) = some (.int (i - j)) := (rfl)
theorem b_mod (h : 0 < j) : binD s .mod (.int i) (.int j) = some (.int (i % j)) := by
  show (if 0 < j then some (i % j) else none).map D.int = _
  rw [if_pos h]; rfl
@[scoped simp] theorem b_mod4 : binD s .mod (.int i) (.int 4) = some (.int (i % 4)) := b_mod (by decide)
theorem b_fdiv (h : 0 < j) (h2 : j < 1073741824) : binD s .fdiv (.int i) (.int j) = some (.int (i / j)) := by
  show (if 0 < j ∧ j < 1073741824 then some (i / j) else none).map D.int = _
  rw [if_pos ⟨h, h2⟩]; rfl
theorem b_mul (h : (-(2 ^ 64) < i ∧ i < 2 ^ 64) ∨ (-(2 ^ 64) < j ∧ j < 2 ^ 64)) : binD s .mul (.int i) (.int j) = some (.int (i * j)) := by
  show (if (-(2 ^ 64) < i ∧ i < 2 ^ 64) ∨ (-(2 ^ 64) < j ∧ j < 2 ^ 64) then some (i * j) else none).map D.int = _
  rw [if_pos h]; rfl
@[scoped simp] theorem b_mul_s1 : binD s .mul (.str a) (.int 1) = some (.str a) := (rfl)
@[scoped simp] theorem b_mul_s0 : binD s .mul (.str a) (.int 0) = some (.str []) := (rfl)
theorem b_add_s (h : a.length + b.length ≤ LIM) : binD s .add (.str a) (.str b) = some (.str (a ++ b)) := by
  show (if a.length + b.length ≤ LIM then some (D.str (a ++ b)) else none) = _
  rw [if_pos h]
theorem b_add_l (h : xs.length + ys.length ≤ LIM) : binD s .add (.lst xs) (.lst ys) = some (.lst (xs ++ ys)) := by
  show (if xs.length + ys.length ≤ LIM then some (D.lst (xs ++ ys)) else none) = _
  rw [if_pos h]
@[scoped simp] theorem c_lt : cmpD s .lt (.int i) (.int j) = some (decide (i < j)) := (rfl)
@[scoped simp] theorem c_le : cmpD s .le (.int i) (.int j) = some (decide (i ≤ j)) := (rfl)
@[scoped simp] theorem c_gt : cmpD s .gt (.int i) (.int j) = some (decide (j < i)) := (rfl)
@[scoped simp] theorem c_ge : cmpD s .ge (.int i) (.int j) = some (decide (j ≤ i)) := (rfl)
@[scoped simp] theorem c_eqi : cmpD s .eq (.int i) (.int j) = some (decide (i = j)) := (rfl)
@[scoped simp] theorem c_nei : cmpD s .ne (.int i) (.int j) = some (!decide (i = j)) := (rfl)
theorem beqT : (a == b) = decide (a = b) := by
  rw [Bool.eq_iff_iff, beq_iff_eq, decide_eq_true_eq]
@[scoped simp] theorem c_eqs : cmpD s .eq (.str a) (.str b) = some (decide (a = b)) := by rw [← beqT]; rfl
@[scoped simp] theorem c_nes : cmpD s .ne (.str a) (.str b) = some (!decide (a = b)) := by rw [← beqT]; rfl
@[scoped simp] theorem c_isN_non : cmpD s .isN .non .non = some true := (rfl)
@[scoped simp] theorem c_isN_int : cmpD s .isN (.int i) .non = some false := (rfl)
@[scoped simp] theorem c_isN_str : cmpD s .isN (.str a) .non = some false := (rfl)
@[scoped simp] theorem c_isN_tup : cmpD s .isN (.tup xs) .non = some false := (rfl)
@[scoped simp] theorem c_isN_lst : cmpD s .isN (.lst xs) .non = some false := (rfl)
@[scoped simp] theorem c_isN_exc {c : Nat} : cmpD s .isN (.exc c) .non = some false := (rfl)
@[scoped simp] theorem c_isN_rg {c : Nat} : cmpD s .isN (.rg c) .non = some false := (rfl)
@[scoped simp] theorem c_notN_non : cmpD s .notN .non .non = some false := (rfl)
@[scoped simp] theorem c_notN_int : cmpD s .notN (.int i) .non = some true := (rfl)
@[scoped simp] theorem c_notN_str : cmpD s .notN (.str a) .non = some true := (rfl)
@[scoped simp] theorem c_notN_tup : cmpD s .notN (.tup xs) .non = some true := (rfl)
@[scoped simp] theorem c_notN_lst : cmpD s .notN (.lst xs) .non = some true := (rfl)
@[scoped simp] theorem c_notN_exc {c : Nat} : cmpD s .notN (.exc c) .non = some true := (rfl)
@[scoped simp] theorem c_notN_rg {c : Nat} : cmpD s .notN (.rg c) .non = some true := (rfl)
@[scoped simp] theorem t_non : truD s .non = some false := (rfl)
@[scoped simp] theorem t_bl {b : Bool} : truD s (.bl b) = some b := (rfl)
@[scoped simp] theorem t_int : truD s (.int i) = some (i != 0) := (rfl)
@[scoped simp] theorem t_tup : truD s (.tup xs) = some (!xs.isEmpty) := (rfl)
@[scoped simp] theorem t_lst : truD s (.lst xs) = some (!xs.isEmpty) := (rfl)
@[scoped simp] theorem tru_ok' {d : D} : tru (.ok d s) = optR (truD s d) s := (rfl)
@[scoped simp] theorem tru_exc' {c : Nat} : tru (.exc c s) = .exc c s := (rfl)
@[scoped simp] theorem l_tup : callB s .len [.tup xs] = some (.int (xs.length : Nat)) := (rfl)
@[scoped simp] theorem l_lst : callB s .len [.lst xs] = some (.int (xs.length : Nat)) := (rfl)
theorem l_str (h : a.length ≤ LIM) : callB s .len [.str a] = some (.int (a.length : Nat)) := by
  show (if a.length ≤ LIM then some (D.int (a.length : Nat)) else none) = _
  rw [if_pos h]
@[scoped simp] theorem b_int_i : callB s .int [.int i] = some (.int i) := (rfl)
@[scoped simp] theorem b_int_b {b : Bool} : callB s .int [.bl b] = some (.int (cond b 1 0)) := (rfl)
def cellL (o : Option CS) : Option (List D) := match o with
  | some ⟨_, .lst xs⟩ => some xs
  | _ => none
@[scoped simp] theorem cellL_some {b : Bool} : cellL (some ⟨b, .lst xs⟩) = some xs := (rfl)
@[scoped simp] theorem lst_rg {k : Nat} : lstOf s (.rg k) = cellL s.cs[k]? := by
  show (match (s.cs[k]?).map (·.c) with
    | some (.lst xs) => some xs
    | _ => none) = _
  cases s.cs[k]? with
  | none => rfl
  | some x => cases x with
    | mk b c => cases c <;> rfl
@[scoped simp] theorem seq_rg {k : Nat} : seqOf s (.rg k) = cellL s.cs[k]? := lst_rg
@[scoped simp] theorem seq_lst : seqOf s (.lst xs) = some xs := (rfl)
@[scoped simp] theorem seq_tup : seqOf s (.tup xs) = some xs := (rfl)
@[scoped simp] theorem b_tuple : callB s .tuple [x] = (seqOf s x).map .tup := (rfl)
theorem l_rg {k : Nat} {b : Bool} (h : s.cs[k]? = some ⟨b, .lst xs⟩) : callB s .len [.rg k] = some (.int (xs.length : Nat)) := by
  have h1 : dctOf s (.rg k) = none := by
    show (match (s.cs[k]?).map (·.c) with
      | some (.dct t kvs) => some (t, kvs)
      | _ => none) = _
    rw [h]; rfl
  show (match dctOf s (.rg k) with
      | some (_, kvs) => some (D.int kvs.length)
      | none => (seqOf s (.rg k)).map fun (xs : List D) => D.int (xs.length : Nat)) = _
  rw [h1]
  simp [h]
@[scoped simp] theorem lst_lst : lstOf s (.lst xs) = some xs := (rfl)
@[scoped simp] theorem ok_append : bmOk s .append x = (lstOf s x).isSome := (rfl)
@[scoped simp] theorem ok_extend : bmOk s .extend x = (lstOf s x).isSome := (rfl)
@[scoped simp] theorem ok_index : bmOk s .index x = (lstOf s x).isSome := (rfl)
@[scoped simp] theorem ok_count : bmOk s .count x = (lstOf s x).isSome := (rfl)
@[scoped simp] theorem ok_pop : bmOk s .pop x = (dctOf s x).isSome := (rfl)
@[scoped simp] theorem ok_get : bmOk s .get x = (dctOf s x).isSome := (rfl)
@[scoped simp] theorem ok_dcopy : bmOk s .dcopy x = (dctOf s x).isSome := (rfl)
@[scoped simp] theorem ok_join : bmOk s .join (.str a) = true := (rfl)
@[scoped simp] theorem ok_split : bmOk s .split (.str a) = true := (rfl)
@[scoped simp] theorem b_all : callB s .all [.lst xs] = (blsOf xs).map fun bs => .bl (bs.all id) := (rfl)
@[scoped simp] theorem b_any : callB s .any [.lst xs] = (blsOf xs).map fun bs => .bl (bs.any id) := (rfl)
@[scoped simp] theorem b_sum : callB s .sum [.lst xs] = (intsOf xs).map fun ns => .int ns.sum := (rfl)
@[scoped simp] theorem bls_0 : blsOf [] = some [] := (rfl)
@[scoped simp] theorem bls_1 {b : Bool} : blsOf (.bl b :: xs) = (blsOf xs).map (b :: ·) := (rfl)
@[scoped simp] theorem ints_0 : intsOf [] = some [] := (rfl)
@[scoped simp] theorem ints_1 {b : Int} : intsOf (.int b :: xs) = (intsOf xs).map (b :: ·) := (rfl)
@[scoped simp] theorem bls_m {α : Type} {q : α → Bool} {as : List α} : blsOf (as.map fun a => D.bl (q a)) = some (as.map q) := bls_map as
@[scoped simp] theorem ints_m {α : Type} {q : α → Int} : ∀ {as : List α}, intsOf (as.map fun a => D.int (q a)) = some (as.map q)
  | [] => rfl
  | a :: as => by simp [intsOf, ints_m (as := as)]
@[scoped simp] theorem b_min2 : callB s .min2 [.int i, .int j] = some (.int (if j < i then j else i)) := (rfl)
@[scoped simp] theorem b_max2 : callB s .max2 [.int i, .int j] = some (.int (if j > i then j else i)) := (rfl)
@[scoped simp] theorem it_l : items s .e [.lst xs] = some (xs, none) := (rfl)
@[scoped simp] theorem it_t : items s .e [.tup xs] = some (xs, none) := (rfl)
@[scoped simp] theorem it_s : items s .e [.str a] = some (a.map fun c => D.str [c], none) := (rfl)
theorem it_r1 {n : Nat} (h : n < 2 ^ 62) : items s .rng1 [.int (n : Nat)] = some ((List.range n).map fun i => D.int (i : Nat), none) := by
  show (if small62 (n : Nat) then some ((List.range (n : Int).toNat).map fun (i : Nat) => D.int (i : Nat), (none : Option Nat)) else none) = _
  have e3 : small62 (n : Nat) = true := by unfold small62; rw [decide_eq_true_eq]; omega
  rw [e3, if_pos rfl, Int.toNat_natCast]
theorem it_r2 {m n : Nat} (h : m < 2 ^ 62) (h2 : n < 2 ^ 62) : items s .rng2 [.int (m : Nat), .int (n : Nat)] = some ((List.range (n - m)).map fun i => D.int ((m + i : Nat) : Nat), none) := by
  show (if small62 (m : Nat) && small62 (n : Nat) then some ((List.range ((n : Int) - (m : Int)).toNat).map fun (i : Nat) => D.int ((m : Int) + (i : Nat)), (none : Option Nat)) else none) = _
  have e3 : small62 (n : Nat) = true := by unfold small62; rw [decide_eq_true_eq]; omega
  have e4 : small62 (m : Nat) = true := by unfold small62; rw [decide_eq_true_eq]; omega
  have e5 : ((n : Int) - (m : Int)).toNat = n - m := by omega
  rw [e3, e4, Bool.and_self, if_pos rfl, e5]
  rfl
@[scoped simp] theorem st_bad {α : Type} {f : α → S → F} : (R.bad : R α).sd e f = .bad := (rfl)
/-- the turns of a loop over places -/
theorem forL_range {turn : D → Env → S → F} {n : Nat} {e : Env} {s : S} (E : Nat → Env) (Sg : Nat → S) (he : e = E 0) (hs : s = Sg 0) (h : ∀ k, k < n → turn (.int (k : Nat)) (E k) (Sg k) = .nx (E (k + 1)) (Sg (k + 1))) :
    forL turn ((List.range n).map fun i => D.int (i : Nat)) e s = .nx (E n) (Sg n) := by
  subst he hs
  suffices H : ∀ m k, k + m = n → forL turn ((List.range' k m).map fun i => D.int (i : Nat)) (E k) (Sg k) = .nx (E n) (Sg n) by
    have := H n 0 (by omega)
    rwa [← List.range_eq_range'] at this
  intro m
  induction m with
  | zero => intro k hk; cases (show k = n by omega); rfl
  | succ m ih =>
    intro k hk
    rw [List.range'_succ, List.map_cons, forL, h k (by omega)]
    exact ih (k + 1) (by omega)
/-- .. over the items of a list -/
theorem forL_at {α : Type} {turn : D → Env → S → F} {as : List α} {g : α → D} {e : Env} {s : S} (E : Nat → Env) (Sg : Nat → S) (he : e = E 0) (hs : s = Sg 0) (h : ∀ k (hk : k < as.length), turn (g as[k]) (E k) (Sg k) = .nx (E (k + 1)) (Sg (k + 1))) :
    forL turn (as.map g) e s = .nx (E as.length) (Sg as.length) := by
  subst he hs
  induction as generalizing E Sg with
  | nil => rfl
  | cons a as ih =>
    rw [List.map_cons, forL, show turn (g a) (E 0) (Sg 0) = .nx (E 1) (Sg 1) from h 0 (by simp)]
    have := ih (fun k => E (k + 1)) (fun k => Sg (k + 1)) (fun k hk => h (k + 1) (by simpa using hk))
    simpa using this
/-- a loop's own name behind k turns -/
def lv (o : Option D) (g : Nat → D) (k : Nat) : Option D := if k = 0 then o else some (g (k - 1))
@[scoped simp] theorem lv0 {o : Option D} {g : Nat → D} : lv o g 0 = o := (rfl)
@[scoped simp] theorem lvS {o : Option D} {g : Nat → D} {k : Nat} : lv o g (k + 1) = some (g k) := by unfold lv; rw [if_neg (by omega), Nat.add_sub_cancel]
end
/-! ## pairs -/
def pi (p : Int × Int) : D := .tup [.int p.1, .int p.2]
def pn (p : Nat × Nat) : D := .tup [.int (p.1 : Nat), .int (p.2 : Nat)]
theorem pn_pi (p : Nat × Nat) : pn p = pi ((p.1 : Int), (p.2 : Int)) := rfl
theorem pi_inj {p q : Int × Int} (h : pi p = pi q) : p = q := by
  unfold pi at h
  injection h with h
  injection h with h1 h2
  injection h2 with h2 h3
  injection h1 with h1
  injection h2 with h2
  exact Prod.ext h1 h2
theorem eq_pi (p q : Int × Int) : eqD (pi p) (pi q) = decide (p = q) := by
  show (decide (p.1 = q.1) && (decide (p.2 = q.2) && true)) = decide (p = q)
  rw [Bool.and_true, Bool.eq_iff_iff, Bool.and_eq_true, decide_eq_true_eq, decide_eq_true_eq, decide_eq_true_eq, Prod.ext_iff]
theorem eq_map {α : Type} {f : α → D} [DecidableEq α] (h : ∀ a b, eqD (f a) (f b) = decide (a = b)) : ∀ xs ys : List α, eqDs (xs.map f) (ys.map f) = decide (xs = ys)
  | [], [] => rfl
  | [], _ :: _ => rfl
  | _ :: _, [] => rfl
  | x :: xs, y :: ys => by
    show (eqD (f x) (f y) && eqDs (xs.map f) (ys.map f)) = _
    rw [h, eq_map h xs ys, Bool.eq_iff_iff]
    simp
def ltp (p q : Int × Int) : Bool := decide (p.1 < q.1) || (decide (p.1 = q.1) && decide (p.2 < q.2))
theorem lt_pi (p q : Int × Int) : ltD (pi p) (pi q) = ltp p q := by
  show ltDs [.int p.1, .int p.2] [.int q.1, .int q.2] = ltp p q
  simp only [ltDs, eqD, ltD, ltp]
  by_cases h : p.1 = q.1
  · by_cases h2 : p.2 = q.2
    · simp [h, h2]
    · have : ((p.2 == q.2) : Bool) = false := by simpa using h2
      simp [h, this]
  · have : ((p.1 == q.1) : Bool) = false := by simpa using h
    simp [h, this]
theorem plain_pi (p : Int × Int) (n : Nat) : plainD (n + 1) (pi p) = true := rfl
theorem plains_map {α : Type} {f : α → D} {n : Nat} (h : ∀ a, plainD n (f a) = true) : ∀ xs : List α, plainDs n (xs.map f) = true
  | [] => rfl
  | x :: xs => by simp [plainDs, h, plains_map h xs]
theorem plain_pis {xs : List (Int × Int)} {n : Nat} : plainD (n + 2) (.lst (xs.map pi)) = true := plains_map (fun a => plain_pi a n) xs
theorem canSort_pi (xs : List (Int × Int)) : canSort (xs.map pi) = true := by
  unfold canSort
  rw [Bool.and_eq_true, Bool.or_eq_true]
  refine ⟨List.all_eq_true.mpr fun x hx => ?_, .inl (List.all_eq_true.mpr fun x hx => ?_)⟩
  · obtain ⟨p, _, rfl⟩ := List.mem_map.mp hx
    rw [Bool.and_eq_true]
    refine ⟨rfl, List.all_eq_true.mpr fun y hy => ?_⟩
    obtain ⟨q, _, rfl⟩ := List.mem_map.mp hy
    rfl
  · obtain ⟨p, _, rfl⟩ := List.mem_map.mp hx
    rfl
theorem sort_pi (xs : List (Int × Int)) : sortD (xs.map pi) = (xs.mergeSort fun a b => !ltp b a).map pi := by
  unfold sortD
  rw [List.map_mergeSort]
  intro a _ b _
  rw [lt_pi]
theorem ltp_total (a b : Int × Int) : (!ltp b a || !ltp a b) = true := by
  unfold ltp
  rw [Bool.or_eq_true, Bool.not_eq_true', Bool.not_eq_true', Bool.or_eq_false_iff, Bool.or_eq_false_iff, Bool.and_eq_false_iff, Bool.and_eq_false_iff]
  simp only [decide_eq_false_iff_not]
  omega
theorem ltp_trans (a b c : Int × Int) (h : (!ltp b a) = true) (h2 : (!ltp c b) = true) : (!ltp c a) = true := by
  unfold ltp at *
  rw [Bool.not_eq_true', Bool.or_eq_false_iff, Bool.and_eq_false_iff] at *
  simp only [decide_eq_false_iff_not] at *
  omega
theorem ltp_anti {a b : Int × Int} (h : (!ltp b a) = true) (h2 : (!ltp a b) = true) : a = b := by
  unfold ltp at *
  rw [Bool.not_eq_true', Bool.or_eq_false_iff, Bool.and_eq_false_iff] at *
  simp only [decide_eq_false_iff_not] at *
  apply Prod.ext <;> omega
/-- the sorting of a list that has the members of a rising one, each once -/
theorem sort_to {xs ys : List (Int × Int)} (hp : xs.Perm ys) (hs : ys.Pairwise fun a b => ltp a b = true) : (xs.mergeSort fun a b => !ltp b a) = ys := by
  have h1 : (xs.mergeSort fun a b => !ltp b a).Pairwise fun a b => (!ltp b a) = true := List.pairwise_mergeSort (fun a b c => ltp_trans a b c) (fun a b => ltp_total a b) xs
  have h2 : ys.Pairwise fun a b => (!ltp b a) = true := hs.imp fun {a b} h => by
    unfold ltp at *
    rw [Bool.not_eq_true', Bool.or_eq_false_iff, Bool.and_eq_false_iff]
    rw [Bool.or_eq_true, Bool.and_eq_true] at h
    simp only [decide_eq_false_iff_not, decide_eq_true_eq] at *
    omega
  exact List.Perm.eq_of_pairwise (fun a b _ _ h3 h4 => ltp_anti h3 h4) h1 h2 ((List.mergeSort_perm xs _).trans hp)
theorem ltp_irr (a : Int × Int) : ltp a a = false := by simp [ltp]
theorem nodup_of_rising {ys : List (Int × Int)} (hs : ys.Pairwise fun a b => ltp a b = true) : ys.Nodup := hs.imp fun {a b} h e => by subst e; rw [ltp_irr] at h; cases h
theorem canMin_int (xs : List Int) : canMin (xs.map D.int) = true := by
  unfold canMin
  refine List.all_eq_true.mpr fun x hx => ?_
  obtain ⟨p, _, rfl⟩ := List.mem_map.mp hx
  rw [Bool.and_eq_true]
  refine ⟨rfl, List.all_eq_true.mpr fun y hy => ?_⟩
  obtain ⟨q, _, rfl⟩ := List.mem_map.mp hy
  rfl
/-- the least of some numbers -/
theorem min_fold (x : Int) (xs : List Int) : (xs.map D.int).foldl (fun a y => if ltD y a then y else a) (D.int x) = D.int (xs.foldl min x) := by
  induction xs generalizing x with
  | nil => rfl
  | cons y ys ih =>
    simp only [List.map_cons, List.foldl_cons]
    have : (if ltD (.int y) (.int x) = true then D.int y else D.int x) = .int (min x y) := by
      show (if decide (y < x) = true then D.int y else D.int x) = _
      by_cases h : y < x
      · rw [if_pos (decide_eq_true h), Int.min_eq_right (by omega)]
      · rw [if_neg (by simpa using h), Int.min_eq_left (by omega)]
    rw [this, ih]
theorem max_fold (x : Int) (xs : List Int) : (xs.map D.int).foldl (fun a y => if ltD a y then y else a) (D.int x) = D.int (xs.foldl max x) := by
  induction xs generalizing x with
  | nil => rfl
  | cons y ys ih =>
    simp only [List.map_cons, List.foldl_cons]
    have : (if ltD (.int x) (.int y) = true then D.int y else D.int x) = .int (max x y) := by
      show (if decide (x < y) = true then D.int y else D.int x) = _
      by_cases h : x < y
      · rw [if_pos (decide_eq_true h), Int.max_eq_right (by omega)]
      · rw [if_neg (by simpa using h), Int.max_eq_left (by omega)]
    rw [this, ih]
theorem fold_min_le (x : Int) (xs : List Int) : xs.foldl min x ≤ x ∧ (∀ y ∈ xs, xs.foldl min x ≤ y) ∧ (xs.foldl min x = x ∨ xs.foldl min x ∈ xs) := by
  induction xs generalizing x with
  | nil => simp
  | cons y ys ih =>
    obtain ⟨h1, h2, h3⟩ := ih (min x y)
    rw [List.foldl_cons]
    refine ⟨by omega, fun z hz => ?_, ?_⟩
    · rcases List.mem_cons.mp hz with rfl | hz
      · omega
      · exact h2 z hz
    · rcases h3 with h3 | h3
      · rcases Int.le_total x y with h | h
        · left; omega
        · right; rw [h3, Int.min_eq_right h]; exact List.mem_cons_self
      · right; exact List.mem_cons_of_mem _ h3
theorem fold_max_le (x : Int) (xs : List Int) : x ≤ xs.foldl max x ∧ (∀ y ∈ xs, y ≤ xs.foldl max x) ∧ (xs.foldl max x = x ∨ xs.foldl max x ∈ xs) := by
  induction xs generalizing x with
  | nil => simp
  | cons y ys ih =>
    obtain ⟨h1, h2, h3⟩ := ih (max x y)
    rw [List.foldl_cons]
    refine ⟨by omega, fun z hz => ?_, ?_⟩
    · rcases List.mem_cons.mp hz with rfl | hz
      · omega
      · exact h2 z hz
    · rcases h3 with h3 | h3
      · rcases Int.le_total x y with h | h
        · right; rw [h3, Int.max_eq_right h]; exact List.mem_cons_self
        · left; omega
      · right; exact List.mem_cons_of_mem _ h3
theorem min1_int {s : S} {xs : List Int} {m : Int} (hm : m ∈ xs) (hl : ∀ y ∈ xs, m ≤ y) : callB s .min1 [.lst (xs.map D.int)] = some (.int m) := by
  show (if canMin (xs.map D.int) then minD (xs.map D.int) else none) = _
  rw [canMin_int, if_pos rfl]
  cases xs with
  | nil => cases hm
  | cons x xs =>
    show some (List.foldl _ (D.int x) (xs.map D.int)) = _
    rw [min_fold]
    obtain ⟨h1, h2, h3⟩ := fold_min_le x xs
    congr 2
    apply Int.le_antisymm
    · rcases List.mem_cons.mp hm with rfl | h
      · exact h1
      · exact h2 m h
    · rcases h3 with h3 | h3
      · rw [h3]; exact hl x List.mem_cons_self
      · exact hl _ (List.mem_cons_of_mem _ h3)
theorem max1_int {s : S} {xs : List Int} {m : Int} (hm : m ∈ xs) (hl : ∀ y ∈ xs, y ≤ m) : callB s .max1 [.lst (xs.map D.int)] = some (.int m) := by
  show (if canMin (xs.map D.int) then maxD (xs.map D.int) else none) = _
  rw [canMin_int, if_pos rfl]
  cases xs with
  | nil => cases hm
  | cons x xs =>
    show some (List.foldl _ (D.int x) (xs.map D.int)) = _
    rw [max_fold]
    obtain ⟨h1, h2, h3⟩ := fold_max_le x xs
    congr 2
    apply Int.le_antisymm
    · rcases h3 with h3 | h3
      · rw [h3]; exact hl x List.mem_cons_self
      · exact hl _ (List.mem_cons_of_mem _ h3)
    · rcases List.mem_cons.mp hm with rfl | h
      · exact h1
      · exact h2 m h
theorem min1_map {α : Type} {s : S} {q : α → Int} {as : List α} {m : Int} (hm : ∃ a ∈ as, q a = m) (hl : ∀ a ∈ as, m ≤ q a) : callB s .min1 [.lst (as.map fun a => .int (q a))] = some (.int m) := by
  have := min1_int (s := s) (xs := as.map q) (m := m) (List.mem_map.mpr hm) (fun y hy => by obtain ⟨a, ha, rfl⟩ := List.mem_map.mp hy; exact hl a ha)
  rwa [List.map_map] at this
theorem max1_map {α : Type} {s : S} {q : α → Int} {as : List α} {m : Int} (hm : ∃ a ∈ as, q a = m) (hl : ∀ a ∈ as, q a ≤ m) : callB s .max1 [.lst (as.map fun a => .int (q a))] = some (.int m) := by
  have := max1_int (s := s) (xs := as.map q) (m := m) (List.mem_map.mpr hm) (fun y hy => by obtain ⟨a, ha, rfl⟩ := List.mem_map.mp hy; exact hl a ha)
  rwa [List.map_map] at this
/-- the least, the greatest -/
def lo : List Nat → Nat
  | [] => 0
  | [x] => x
  | x :: y :: r => min x (lo (y :: r))
def hi : List Nat → Nat
  | [] => 0
  | x :: r => max x (hi r)
theorem lo_spec : ∀ {l : List Nat}, l ≠ [] → lo l ∈ l ∧ ∀ x ∈ l, lo l ≤ x
  | [], h => absurd rfl h
  | [x], _ => by simp [lo]
  | x :: y :: r, _ => by
    obtain ⟨h1, h2⟩ := lo_spec (l := y :: r) (by simp)
    rw [lo]
    refine ⟨?_, fun z hz => ?_⟩
    · rcases Nat.le_total x (lo (y :: r)) with h | h
      · rw [Nat.min_eq_left h]; exact List.mem_cons_self
      · rw [Nat.min_eq_right h]; exact List.mem_cons_of_mem _ h1
    · rcases List.mem_cons.mp hz with rfl | hz
      · exact Nat.min_le_left _ _
      · exact Nat.le_trans (Nat.min_le_right _ _) (h2 z hz)
theorem hi_le : ∀ {l : List Nat}, ∀ x ∈ l, x ≤ hi l
  | [], x, h => by cases h
  | y :: r, x, h => by
    rw [hi]
    rcases List.mem_cons.mp h with rfl | h
    · exact Nat.le_max_left _ _
    · exact Nat.le_trans (hi_le x h) (Nat.le_max_right _ _)
theorem hi_mem : ∀ {l : List Nat}, l ≠ [] → hi l ∈ l
  | [], h => absurd rfl h
  | [x], _ => by simp [hi]
  | x :: y :: r, _ => by
    have h1 := hi_mem (l := y :: r) (by simp)
    rw [hi]
    rcases Nat.le_total x (hi (y :: r)) with h | h
    · rw [Nat.max_eq_right h]; exact List.mem_cons_of_mem _ h1
    · rw [Nat.max_eq_left h]; exact List.mem_cons_self
theorem lv_pos {o : Option D} {g : Nat → D} {k : Nat} (h : 0 < k) : lv o g k = some (g (k - 1)) := by
  unfold lv
  rw [if_neg (by omega)]
theorem lv_pos' {o : Option D} {g : Nat → D} {k : Nat} (h : 0 < k) : lv o g k = lv none g k := by rw [lv_pos h, lv_pos h]
theorem eq_pn (p q : Nat × Nat) : eqD (pn p) (pn q) = decide (p = q) := by
  rw [pn_pi, pn_pi, eq_pi, Bool.eq_iff_iff, decide_eq_true_eq, decide_eq_true_eq, Prod.ext_iff, Prod.ext_iff]
  simp only [Int.natCast_inj]
end M.Ev

set_option Elab.async false
set_option linter.all false
set_option maxRecDepth 100000
set_option maxHeartbeats 1000000
set_option autoImplicit false
/-! P4: cells at the end; walks of locked lists. -/
namespace M.Ev
open M
/-! plain data lie below every bound -/
mutual
theorem below_plain {b : Nat} : ∀ {k m : Nat} {d : D}, plainD k d = true → k ≤ m → below b m d = true
  | _, 0, .non, _, _ => rfl
  | _, 0, .bl _, _, _ => rfl
  | _, 0, .int _, _, _ => rfl
  | _, 0, .str _, _, _ => rfl
  | _, _ + 1, .non, _, _ => rfl
  | _, _ + 1, .bl _, _, _ => rfl
  | _, _ + 1, .int _, _, _ => rfl
  | _, _ + 1, .str _, _, _ => rfl
  | 0, _, .tup _, h, _ => by simp [plainD] at h
  | 0, _, .lst _, h, _ => by simp [plainD] at h
  | k + 1, 0, .tup _, _, h => by omega
  | k + 1, 0, .lst _, _, h => by omega
  | k + 1, m + 1, .tup xs, h, hm => by
    have := belows_plain (b := b) (k := k) (m := m) (xs := xs) (by simpa [plainD] using h) (by omega)
    rw [below]; exact this
  | k + 1, m + 1, .lst xs, h, hm => by
    have := belows_plain (b := b) (k := k) (m := m) (xs := xs) (by simpa [plainD] using h) (by omega)
    rw [below]; exact this
  | _, _, .dct _ _ _, h, _ => by simp [plainD] at h
  | _, _, .ins _ _ _, h, _ => by simp [plainD] at h
  | _, _, .rg _, h, _ => by simp [plainD] at h
  | _, _, .exc _, h, _ => by simp [plainD] at h
  | _, _, .scr _, h, _ => by simp [plainD] at h
theorem belows_plain {b : Nat} : ∀ {k m : Nat} {xs : List D}, plainDs k xs = true → k ≤ m → xs.all (below b m) = true
  | _, _, [], _, _ => rfl
  | k, m, x :: xs, h, hm => by
    rw [plainDs, Bool.and_eq_true] at h
    simp [List.all_cons, below_plain h.1 hm, belows_plain h.2 hm]
end
theorem may_plain {s : S} {k : Nat} {d : D} (h : plainD 8 d = true) : mayPut s k d = true := by
  unfold mayPut
  rw [List.all_eq_true]
  intro b _
  rw [Bool.or_eq_true]
  exact .inr (below_plain h (Nat.le_refl 8))
theorem plain_mono : ∀ {k m : Nat} {d : D}, k ≤ m → plainD k d = true → plainD m d = true := by
  have H : ∀ (m k : Nat), k ≤ m → (∀ d : D, plainD k d = true → plainD m d = true) := by
    intro m
    induction m with
    | zero => intro k h d; have : k = 0 := by omega
              subst this; exact id
    | succ m ih =>
      intro k h d
      match k, d with
      | 0, .tup _ => simp [plainD]
      | 0, .lst _ => simp [plainD]
      | k + 1, .tup xs =>
        have hh : ∀ xs : List D, plainDs k xs = true → plainDs m xs = true := by
          intro xs
          induction xs with
          | nil => intro _; rfl
          | cons x xs ih2 =>
            intro h2
            rw [plainDs, Bool.and_eq_true] at *
            exact ⟨ih k (by omega) x h2.1, ih2 h2.2⟩
        exact hh xs
      | k + 1, .lst xs =>
        have hh : ∀ xs : List D, plainDs k xs = true → plainDs m xs = true := by
          intro xs
          induction xs with
          | nil => intro _; rfl
          | cons x xs ih2 =>
            intro h2
            rw [plainDs, Bool.and_eq_true] at *
            exact ⟨ih k (by omega) x h2.1, ih2 h2.2⟩
        exact hh xs
      | _, .non => intro _; rfl
      | _, .bl _ => intro _; rfl
      | _, .int _ => intro _; rfl
      | _, .str _ => intro _; rfl
      | _, .dct _ _ _ => simp [plainD]
      | _, .ins _ _ _ => simp [plainD]
      | _, .rg _ => simp [plainD]
      | _, .exc _ => simp [plainD]
      | _, .scr _ => simp [plainD]
  intro k m d h
  exact H m k h d
/-! cells at places -/
theorem m_append {s : S} {k : Nat} {xs : List D} {y : D} (h : s.cs[k]? = some ⟨false, .lst xs⟩) (hl : xs.length < LIM) (hp : mayPut s k y = true) : callM s .append (.rg k) [y] = R.ok D.non (setCell s k (.lst (xs ++ [y]))) := by
  show (match s.cs[k]? with
      | some ⟨false, .lst xs⟩ => if xs.length < LIM && mayPut s k y then R.ok D.non (setCell s k (.lst (xs ++ [y]))) else .bad
      | _ => .bad) = _
  rw [h]
  simp only [hp, Bool.and_true, decide_eq_true hl, if_true]
theorem m_extend {s : S} {k : Nat} {xs ys : List D} (h : s.cs[k]? = some ⟨false, .lst xs⟩) (hl : xs.length + ys.length ≤ LIM) (hp : ∀ y ∈ ys, mayPut s k y = true) : callM s .extend (.rg k) [.lst ys] = R.ok D.non (setCell s k (.lst (xs ++ ys))) := by
  show (match s.cs[k]?, lstOf s (.lst ys) with
      | some ⟨false, .lst xs⟩, some ys => if xs.length + ys.length ≤ LIM && ys.all (mayPut s k) then R.ok D.non (setCell s k (.lst (xs ++ ys))) else .bad
      | _, _ => .bad) = _
  rw [h]
  have : ys.all (mayPut s k) = true := List.all_eq_true.mpr hp
  simp only [lstOf, this, Bool.and_true, decide_eq_true hl, if_true]
section
variable {cs : List CS} {c c2 c3 : CS} {bs : List Nat} {x : Cell}
@[scoped simp] theorem at_0 : (cs ++ [c])[cs.length]? = some c := by simp
@[scoped simp] theorem at_00 : (cs ++ [c, c2])[cs.length]? = some c := by simp
@[scoped simp] theorem at_01 : (cs ++ [c, c2])[cs.length + 1]? = some c2 := by simp
@[scoped simp] theorem set_0 : setCell ⟨bs, cs ++ [c]⟩ cs.length x = ⟨bs, cs ++ [⟨false, x⟩]⟩ := by simp [setCell]
@[scoped simp] theorem set_00 : setCell ⟨bs, cs ++ [c, c2]⟩ cs.length x = ⟨bs, cs ++ [⟨false, x⟩, c2]⟩ := by simp [setCell]
@[scoped simp] theorem set_01 : setCell ⟨bs, cs ++ [c, c2]⟩ (cs.length + 1) x = ⟨bs, cs ++ [c, ⟨false, x⟩]⟩ := by simp [setCell]
@[scoped simp] theorem at_1 {t : CS} : (t :: (cs ++ [c]))[cs.length + 1]? = some c := by simp
@[scoped simp] theorem at_10 {t : CS} : (t :: (cs ++ [c, c2]))[cs.length + 1]? = some c := by simp
@[scoped simp] theorem at_11 {t : CS} : (t :: (cs ++ [c, c2]))[cs.length + 1 + 1]? = some c2 := by simp
@[scoped simp] theorem set_1 {t : CS} : setCell ⟨bs, t :: (cs ++ [c])⟩ (cs.length + 1) x = ⟨bs, t :: (cs ++ [⟨false, x⟩])⟩ := by simp [setCell]
@[scoped simp] theorem set_10 {t : CS} : setCell ⟨bs, t :: (cs ++ [c, c2])⟩ (cs.length + 1) x = ⟨bs, t :: (cs ++ [⟨false, x⟩, c2])⟩ := by simp [setCell]
@[scoped simp] theorem set_11 {t : CS} : setCell ⟨bs, t :: (cs ++ [c, c2])⟩ (cs.length + 1 + 1) x = ⟨bs, t :: (cs ++ [c, ⟨false, x⟩])⟩ := by simp [setCell]
@[scoped simp] theorem new_0 : newCell ⟨bs, cs⟩ x = ⟨bs, cs ++ [⟨false, x⟩]⟩ := (rfl)
end
section
variable {K : Calls} {e : Env} {s : S} {α : Type} {tg : Tg} {k : IK} {es : List DE} {elt c : DE} {own : List Nat} {ds : List D} {g f : α → D} {as : List α}
theorem lock_two {s : S} {n : Nat} {c : Cell} (hn : s.cs[n]? = some ⟨false, c⟩) : lockAt (lockAt s n true) n false = s := by
  unfold lockAt
  rw [hn]
  have hl : n < s.cs.length := (List.getElem?_eq_some_iff.mp hn).1
  simp only [List.getElem?_set_self hl, List.set_set]
  cases s with
  | mk bs cs =>
    congr
    apply List.ext_getElem?
    intro i
    by_cases h : n = i
    · subst h; rw [List.getElem?_set_self hl, hn]
    · rw [List.getElem?_set_ne h]
theorem lock_at {s : S} {n : Nat} {b b2 : Bool} {c : Cell} (hn : s.cs[n]? = some ⟨b, c⟩) : (lockAt s n b2).cs[n]? = some ⟨b2, c⟩ := by
  unfold lockAt
  rw [hn]
  have hl : n < s.cs.length := (List.getElem?_eq_some_iff.mp hn).1
  simp only [List.getElem?_set_self hl]
theorem lock_ne {s : S} {n m : Nat} {b : Bool} (h : n ≠ m) : (lockAt s n b).cs[m]? = s.cs[m]? := by
  unfold lockAt
  cases s.cs[n]? with
  | none => rfl
  | some x => simp only [List.getElem?_set_ne h]
theorem x_lc1 {cell : Bool} {tg : Tg} {k : IK} {cond : Option DE} {elt : DE} {own : List Nat} : evE K (.lc cell true tg k es cond elt own) e s = lockE (evEs K es e s) s fun s => evE K (.lc cell false tg k es cond elt own) e s := by
  simp only [evE]
  rfl
/-- a walk of a locked list -/
theorem lc_lock {n : Nat} {xs : List D} {cond : Option DE} {v : D} (h1 : ∀ s, evEs K es e s = .ok [.rg n] s) (hn : s.cs[n]? = some ⟨false, .lst xs⟩) (h : evE K (.lc false false tg .e es cond elt own) e (lockAt s n true) = .ok v (lockAt s n true)) :
    evE K (.lc false true tg .e es cond elt own) e s = .ok v s := by
  rw [x_lc1, h1]
  unfold lockE lockCell
  simp only [hn, h, lock_two hn]
theorem it_lock {n : Nat} {xs : List D} (hn : s.cs[n]? = some ⟨false, .lst xs⟩) : items (lockAt s n true) .e [.rg n] = some (xs, none) := by
  show (match (lockAt s n true).cs[n]? with
      | some ⟨l, .lst xs⟩ => some (xs, if l then none else some n)
      | _ => none) = _
  rw [lock_at hn]; rfl
end
section
variable {bs : List Nat} {cs : List CS} {c : CS} {xs : List D}
@[scoped simp] theorem it_lock0 : items (lockAt ⟨bs, cs ++ [⟨false, .lst xs⟩]⟩ cs.length true) .e [.rg cs.length] = some (xs, none) := it_lock at_0
@[scoped simp] theorem it_lock00 : items (lockAt ⟨bs, cs ++ [⟨false, .lst xs⟩, c]⟩ cs.length true) .e [.rg cs.length] = some (xs, none) := it_lock at_00
@[scoped simp] theorem it_lock01 : items (lockAt ⟨bs, cs ++ [c, ⟨false, .lst xs⟩]⟩ (cs.length + 1) true) .e [.rg (cs.length + 1)] = some (xs, none) := it_lock at_01
theorem app_0 {y : D} (hl : xs.length < LIM) (hp : plainD 8 y = true) : callM ⟨bs, cs ++ [⟨false, .lst xs⟩]⟩ .append (.rg cs.length) [y] = .ok .non ⟨bs, cs ++ [⟨false, .lst (xs ++ [y])⟩]⟩ := by rw [m_append at_0 hl (may_plain hp), set_0]
theorem app_00 {y : D} (hl : xs.length < LIM) (hp : plainD 8 y = true) : callM ⟨bs, cs ++ [⟨false, .lst xs⟩, c]⟩ .append (.rg cs.length) [y] = .ok .non ⟨bs, cs ++ [⟨false, .lst (xs ++ [y])⟩, c]⟩ := by rw [m_append at_00 hl (may_plain hp), set_00]
theorem app_01 {y : D} (hl : xs.length < LIM) (hp : plainD 8 y = true) : callM ⟨bs, cs ++ [c, ⟨false, .lst xs⟩]⟩ .append (.rg (cs.length + 1)) [y] = .ok .non ⟨bs, cs ++ [c, ⟨false, .lst (xs ++ [y])⟩]⟩ := by rw [m_append at_01 hl (may_plain hp), set_01]
end
section
variable {bs : List Nat} {cs : List CS} {c t : CS} {xs : List D}
@[scoped simp] theorem it_lock1 : items (lockAt ⟨bs, t :: (cs ++ [⟨false, .lst xs⟩])⟩ (cs.length + 1) true) .e [.rg (cs.length + 1)] = some (xs, none) := it_lock at_1
@[scoped simp] theorem it_lock10 : items (lockAt ⟨bs, t :: (cs ++ [⟨false, .lst xs⟩, c])⟩ (cs.length + 1) true) .e [.rg (cs.length + 1)] = some (xs, none) := it_lock at_10
theorem app_1 {y : D} (hl : xs.length < LIM) (hp : plainD 8 y = true) : callM ⟨bs, t :: (cs ++ [⟨false, .lst xs⟩])⟩ .append (.rg (cs.length + 1)) [y] = .ok .non ⟨bs, t :: (cs ++ [⟨false, .lst (xs ++ [y])⟩])⟩ := by rw [m_append at_1 hl (may_plain hp), set_1]
theorem app_10 {y : D} (hl : xs.length < LIM) (hp : plainD 8 y = true) : callM ⟨bs, t :: (cs ++ [⟨false, .lst xs⟩, c])⟩ .append (.rg (cs.length + 1)) [y] = .ok .non ⟨bs, t :: (cs ++ [⟨false, .lst (xs ++ [y])⟩, c])⟩ := by rw [m_append at_10 hl (may_plain hp), set_10]
theorem app_11 {y : D} (hl : xs.length < LIM) (hp : plainD 8 y = true) : callM ⟨bs, t :: (cs ++ [c, ⟨false, .lst xs⟩])⟩ .append (.rg (cs.length + 1 + 1)) [y] = .ok .non ⟨bs, t :: (cs ++ [c, ⟨false, .lst (xs ++ [y])⟩])⟩ := by rw [m_append at_11 hl (may_plain hp), set_11]
end
/-- a call by value that has made cells -/
theorem fnF_new {K : Calls} {f : Nat} {as : List D} {d d' : D} {s : S} {new : List CS} (h : K.fn f as ⟨s.cs.length :: s.bs, s.cs⟩ = .ok d ⟨s.cs.length :: s.bs, s.cs ++ new⟩) (hf : ∀ bs, frz ⟨bs, s.cs ++ new⟩ s.cs.length 8 d = some d') : K.fnF f as s = .ok d' s := fnF_ok h (hf _)
/-- .. a new list of plain data -/
theorem frz_new {bs : List Nat} {cs : List CS} {xs : List D} {n : Nat} (h : plainDs n xs = true) (hn : n ≤ 7) : frz ⟨bs, cs ++ [⟨false, .lst xs⟩]⟩ cs.length 8 (.rg cs.length) = some (.lst xs) := by
  simp [frz, frzs_plain h hn]
/-! == and in -/
theorem rd_plain {s : S} : ∀ {n m : Nat} {d : D}, plainD n d = true → rd s m d = d
  | _, 0, d, _ => by cases d <;> rfl
  | _, m + 1, .non, _ => rfl
  | _, m + 1, .bl _, _ => rfl
  | _, m + 1, .int _, _ => rfl
  | _, m + 1, .str _, _ => rfl
  | _, m + 1, .tup _, _ => rfl
  | _, m + 1, .lst _, _ => rfl
  | _, m + 1, .dct _ _ _, _ => rfl
  | _, m + 1, .ins _ _ _, _ => rfl
  | _, m + 1, .rg _, h => by simp [plainD] at h
  | _, m + 1, .exc _, _ => rfl
  | _, m + 1, .scr _, _ => rfl
theorem c_eq {s : S} {x y : D} (hx : plainD 8 x = true) (hy : plainD 8 y = true) : cmpD s .eq x y = some (eqD x y) := by
  show (if plainD 8 (rd s 3 x) && plainD 8 (rd s 3 y) then some (eqD (rd s 3 x) (rd s 3 y)) else none) = _
  rw [rd_plain hx, rd_plain hy, hx, hy]; rfl
theorem c_ne {s : S} {x y : D} (hx : plainD 8 x = true) (hy : plainD 8 y = true) : cmpD s .ne x y = some (!eqD x y) := by
  show (if plainD 8 (rd s 3 x) && plainD 8 (rd s 3 y) then some (!eqD (rd s 3 x) (rd s 3 y)) else none) = _
  rw [rd_plain hx, rd_plain hy, hx, hy]; rfl
theorem any_eq {α : Type} [DecidableEq α] {f : α → D} (he : ∀ a b, eqD (f a) (f b) = decide (a = b)) {a : α} {as : List α} [Decidable (a ∈ as)] : ((as.map f).any fun z => eqD z (f a)) = decide (a ∈ as) := by
  rw [Bool.eq_iff_iff, List.any_eq_true, decide_eq_true_eq]
  constructor
  · rintro ⟨z, hz, h⟩
    obtain ⟨b, hb, rfl⟩ := List.mem_map.mp hz
    rw [he, decide_eq_true_eq] at h
    exact h ▸ hb
  · intro h
    exact ⟨f a, List.mem_map_of_mem h, by rw [he]; simp⟩
theorem c_inn {s : S} {x y : D} : cmpD s .inn x y = inD s x y := by simp only [cmpD]
theorem c_nin {s : S} {x y : D} : cmpD s .nin x y = (cmpD s .inn x y).map (!·) := by simp only [cmpD]
theorem inD_seq {s : S} {x y : D} {ys : List D} (hd : dctOf s y = none) (hs : seqOf s y = some ys) : inD s x y = if plainD 6 (rd s 3 x) && plainDs 6 (ys.map (rd s 3)) then some ((ys.map (rd s 3)).any fun z => eqD z (rd s 3 x)) else none := by
  unfold inD
  split
  · cases hs
  · rw [hd, hs]
theorem in_seq {α : Type} [DecidableEq α] {f : α → D} {s : S} {y : D} {a : α} {as : List α} [Decidable (a ∈ as)] (hp : ∀ a, plainD 6 (f a) = true) (he : ∀ a b, eqD (f a) (f b) = decide (a = b)) (hd : dctOf s y = none) (hs : seqOf s y = some (as.map f)) : inD s (f a) y = some (decide (a ∈ as)) := by
  rw [inD_seq hd hs]
  have h1 : (as.map f).map (rd s 3) = as.map f := by
    rw [List.map_map]
    apply List.map_congr_left
    intro b _
    exact rd_plain (hp b)
  simp only [h1, rd_plain (hp a), hp a, plains_map hp as, Bool.and_self, if_true, any_eq he]
section
variable {α : Type} [DecidableEq α] {f : α → D} {s : S} {a : α} {as : List α} (hp : ∀ a, plainD 6 (f a) = true) (he : ∀ a b, eqD (f a) (f b) = decide (a = b))
include hp he
theorem in_lst [Decidable (a ∈ as)] : cmpD s .inn (f a) (.lst (as.map f)) = some (decide (a ∈ as)) := by rw [c_inn]; exact in_seq (y := .lst (as.map f)) hp he rfl rfl
theorem in_tup [Decidable (a ∈ as)] : cmpD s .inn (f a) (.tup (as.map f)) = some (decide (a ∈ as)) := by rw [c_inn]; exact in_seq (y := .tup (as.map f)) hp he rfl rfl
theorem in_rg [Decidable (a ∈ as)] {k : Nat} {b : Bool} (h : s.cs[k]? = some ⟨b, .lst (as.map f)⟩) : cmpD s .inn (f a) (.rg k) = some (decide (a ∈ as)) := by
  rw [c_inn]
  refine in_seq (y := .rg k) hp he ?_ ?_
  · show (match (s.cs[k]?).map (·.c) with
      | some (.dct t kvs) => some (t, kvs)
      | _ => none) = _
    rw [h]; rfl
  · show lstOf s (.rg k) = _
    simp [h]
theorem nin_lst [Decidable (a ∈ as)] : cmpD s .nin (f a) (.lst (as.map f)) = some (!decide (a ∈ as)) := by
  rw [c_nin, in_lst hp he]; rfl
theorem nin_rg [Decidable (a ∈ as)] {k : Nat} {b : Bool} (h : s.cs[k]? = some ⟨b, .lst (as.map f)⟩) : cmpD s .nin (f a) (.rg k) = some (!decide (a ∈ as)) := by
  rw [c_nin, in_rg hp he h]; rfl
theorem nin_map {β : Type} {h : β → α} {bs : List β} [Decidable (a ∈ bs.map h)] : cmpD s .nin (f a) (.lst (bs.map fun b => f (h b))) = some (!decide (a ∈ bs.map h)) := by
  have := nin_lst (s := s) (a := a) (as := bs.map h) hp he
  rwa [List.map_map] at this
theorem in_map {β : Type} {h : β → α} {bs : List β} [Decidable (a ∈ bs.map h)] : cmpD s .inn (f a) (.lst (bs.map fun b => f (h b))) = some (decide (a ∈ bs.map h)) := by
  have := in_lst (s := s) (a := a) (as := bs.map h) hp he
  rwa [List.map_map] at this
end
theorem eq_str (a b : Tx) : eqD (.str a) (.str b) = decide (a = b) := by
  rw [← beqT]; rfl
theorem eq_int (a b : Int) : eqD (.int a) (.int b) = decide (a = b) := rfl
@[scoped simp] theorem eq_lst {xs ys : List D} : eqD (.lst xs) (.lst ys) = eqDs xs ys := by rw [eqD]
@[scoped simp] theorem eq_tup {xs ys : List D} : eqD (.tup xs) (.tup ys) = eqDs xs ys := by rw [eqD]
/-- the places of a list of looks, each look once -/
def looks {α : Type} [DecidableEq α] (f : Nat → α) : Nat → List Nat
  | 0 => []
  | n + 1 => if f n ∈ (looks f n).map f then looks f n else looks f n ++ [n]
theorem looks_lt {α : Type} [DecidableEq α] {f : Nat → α} : ∀ {n i : Nat}, i ∈ looks f n → i < n
  | 0, i, h => by cases h
  | n + 1, i, h => by
    unfold looks at h
    split at h
    · exact Nat.lt_succ_of_lt (looks_lt h)
    · rcases List.mem_append.mp h with h | h
      · exact Nat.lt_succ_of_lt (looks_lt h)
      · rw [List.mem_singleton.mp h]; exact Nat.lt_succ_self n
theorem looks_len {α : Type} [DecidableEq α] {f : Nat → α} : ∀ n : Nat, (looks f n).length ≤ n
  | 0 => Nat.le_refl 0
  | n + 1 => by
    have := looks_len (f := f) n
    unfold looks
    split
    · omega
    · rw [List.length_append]; simp; omega
theorem looks_congr {α β : Type} [DecidableEq α] [DecidableEq β] {f : Nat → α} {g : Nat → β} : ∀ n : Nat, (∀ a b, a < n → b < n → (f a = f b ↔ g a = g b)) → looks f n = looks g n
  | 0, _ => rfl
  | n + 1, h => by
    have ih := looks_congr n fun a b ha hb => h a b (by omega) (by omega)
    unfold looks
    rw [ih]
    have : (f n ∈ (looks g n).map f) ↔ (g n ∈ (looks g n).map g) := by
      rw [List.mem_map, List.mem_map]
      constructor
      · rintro ⟨a, ha, e⟩
        exact ⟨a, ha, (h a n (by have := looks_lt ha; omega) (by omega)).mp e⟩
      · rintro ⟨a, ha, e⟩
        exact ⟨a, ha, (h a n (by have := looks_lt ha; omega) (by omega)).mpr e⟩
    by_cases h2 : g n ∈ (looks g n).map g
    · rw [if_pos h2, if_pos (this.mpr h2)]
    · rw [if_neg h2, if_neg fun h3 => h2 (this.mp h3)]
/-! calls by value, of a table -/
theorem k_plain {T : Nat → Option FD} {k f : Nat} {as : List D} {d : D} {s : S} {new : List CS} (h : runF T k f as ⟨s.cs.length :: s.bs, s.cs⟩ = .ok d ⟨s.cs.length :: s.bs, s.cs ++ new⟩) (hp : plainD 8 d = true) : (KF T k).fnF f as s = .ok d s := fnF_plain h hp
theorem k_new {T : Nat → Option FD} {k f : Nat} {as : List D} {d d' : D} {s : S} {new : List CS} (h : runF T k f as ⟨s.cs.length :: s.bs, s.cs⟩ = .ok d ⟨s.cs.length :: s.bs, s.cs ++ new⟩) (hf : ∀ bs, frz ⟨bs, s.cs ++ new⟩ s.cs.length 8 d = some d') : (KF T k).fnF f as s = .ok d' s := fnF_new h hf
theorem k_exc {T : Nat → Option FD} {k f c : Nat} {as : List D} {s : S} {new : List CS} (h : runF T k f as ⟨s.cs.length :: s.bs, s.cs⟩ = .exc c ⟨s.cs.length :: s.bs, s.cs ++ new⟩) : (KF T k).fnF f as s = .exc c s := fnF_exc h
/-- .. that changes cells -/
theorem k_st {T : Nat → Option FD} {k f : Nat} {as : List D} {d : D} {bs : List Nat} {cs cs' : List CS} (h : runF T k f as ⟨cs.length :: bs, cs⟩ = .ok d ⟨cs.length :: bs, cs'⟩) (hp : plainD 8 d = true) (hl : cs'.length = cs.length) : (KF T k).fnF f as ⟨bs, cs⟩ = .ok d ⟨bs, cs'⟩ := by
  have := fnF_st (K := KF T k) (f := f) (as := as) (s := ⟨bs, cs⟩) (d := d) (cs' := cs') h hp
  rw [this, show (⟨bs, cs⟩ : S).cs.length = cs'.length from hl.symm, List.take_length]
/-- .. the town before all others -/
theorem k_town {T : Nat → Option FD} {k f : Nat} {as : List D} {d : D} {bs : List Nat} {t t' : CS} {rest new : List CS} (h : ∀ b, runF T k f as ⟨b, t :: rest⟩ = .ok d ⟨b, t' :: (rest ++ new)⟩) (hp : plainD 8 d = true) : (KF T k).fnF f as ⟨bs, t :: rest⟩ = .ok d ⟨bs, t' :: rest⟩ := by
  have := fnF_st (K := KF T k) (f := f) (as := as) (s := ⟨bs, t :: rest⟩) (d := d) (cs' := t' :: (rest ++ new)) (h _) hp
  rw [this]; simp
/-! what is plain equals itself -/
mutual
theorem eq_self : ∀ {n : Nat} {d : D}, plainD n d = true → eqD d d = true
  | _, .non, _ => by rw [eqD]
  | _, .bl b, _ => by rw [eqD]; simp
  | _, .int b, _ => by rw [eqD]; simp
  | _, .str b, _ => by rw [eqD]; simp
  | 0, .tup xs, h => by simp [plainD] at h
  | 0, .lst xs, h => by simp [plainD] at h
  | n + 1, .tup xs, h => by rw [eqD]; exact eqs_self (n := n) (by simpa [plainD] using h)
  | n + 1, .lst xs, h => by rw [eqD]; exact eqs_self (n := n) (by simpa [plainD] using h)
  | _, .dct _ _ _, h => by simp [plainD] at h
  | _, .ins _ _ _, h => by simp [plainD] at h
  | _, .rg _, h => by simp [plainD] at h
  | _, .exc _, h => by simp [plainD] at h
  | _, .scr _, h => by simp [plainD] at h
theorem eqs_self : ∀ {n : Nat} {xs : List D}, plainDs n xs = true → eqDs xs xs = true
  | _, [], _ => by rw [eqDs]
  | n, x :: xs, h => by
    rw [plainDs, Bool.and_eq_true] at h
    rw [eqDs, eq_self h.1, eqs_self h.2]; rfl
end
theorem c_eq_self {s : S} {d : D} (h : plainD 8 d = true) : cmpD s .eq d d = some true := by rw [c_eq h h, eq_self h]
theorem c_ne_self {s : S} {d : D} (h : plainD 8 d = true) : cmpD s .ne d d = some false := by rw [c_ne h h, eq_self h]; rfl
@[scoped simp] theorem c_neb {s : S} {a b : Bool} : cmpD s .ne (.bl a) (.bl b) = some (a != b) := (rfl)
@[scoped simp] theorem c_eqb {s : S} {a b : Bool} : cmpD s .eq (.bl a) (.bl b) = some (a == b) := (rfl)
end M.Ev

set_option Elab.async false
set_option linter.all false
set_option maxRecDepth 100000
set_option maxHeartbeats 1000000
set_option autoImplicit false
/-! P5: instances and dicts, where they are. -/
namespace M.Ev
open M
section
variable {s : S} {x y i : D} {c k : Nat} {b t : Bool} {fs : List (Tx × D)} {kvs : List (Ky × D)} {cs : List CS} {bs : List Nat}
def cellI (o : Option CS) : Option (Nat × List (Tx × D)) := match o with
  | some ⟨false, .ins c fs⟩ => some (c, fs)
  | _ => none
def cellDc (o : Option CS) : Option (Bool × List (Ky × D)) := match o with
  | some ⟨_, .dct t kvs⟩ => some (t, kvs)
  | _ => none
@[scoped simp] theorem cellI_some : cellI (some ⟨false, .ins c fs⟩) = some (c, fs) := (rfl)
@[scoped simp] theorem cellDc_some : cellDc (some ⟨b, .dct t kvs⟩) = some (t, kvs) := (rfl)
theorem cellDc_lst {xs : List D} : cellDc (some ⟨b, .lst xs⟩) = none := rfl
@[scoped simp] theorem ins_rg : insOf s (.rg k) = cellI s.cs[k]? := (rfl)
@[scoped simp] theorem dct_rg : dctOf s (.rg k) = cellDc s.cs[k]? := by
  show (match (s.cs[k]?).map (·.c) with
    | some (.dct t kvs) => some (t, kvs)
    | _ => none) = _
  cases s.cs[k]? with
  | none => rfl
  | some x => cases x with
    | mk b c => cases c <;> rfl
@[scoped simp] theorem ins_ins {ns : List Tx} {vs : List D} : insOf s (.ins c ns vs) = some (c, ns.zip vs) := (rfl)
@[scoped simp] theorem dct_dct {ks : List Ky} {vs : List D} : dctOf s (.dct t ks vs) = some (t, ks.zip vs) := (rfl)
@[scoped simp] theorem key_s {a : Tx} : keyOf false (.str a) = some (.s a) := (rfl)
@[scoped simp] theorem key_i {a : Int} : keyOf false (.int a) = some (.i a) := (rfl)
@[scoped simp] theorem key_p {a b : Int} : keyOf true (.tup [.int a, .int b]) = some (.p [.inl a, .inl b]) := (rfl)
theorem in_dct {q : Ky} (hd : dctOf s y = some (t, kvs)) (hk : keyOf t x = some q) : cmpD s .inn x y = some (getK kvs q).isSome := by
  rw [c_inn]
  unfold inD
  split
  · cases hd
  · rw [hd]; simp [hk]
theorem nin_dct {q : Ky} (hd : dctOf s y = some (t, kvs)) (hk : keyOf t x = some q) : cmpD s .nin x y = some (!(getK kvs q).isSome) := by
  rw [c_nin, in_dct hd hk]; rfl
theorem sub_dct {q : Ky} (hd : dctOf s y = some (t, kvs)) (hk : keyOf t x = some q) : subD s y x = getK kvs q := by
  unfold subD
  rw [hd]; simp [hk]
theorem len_dct (hd : dctOf s y = some (t, kvs)) : callB s .len [y] = some (.int (kvs.length : Nat)) := by
  unfold callB
  cases y <;> first | (simp only [hd]; done) | (simp [hd]; done) | (cases hd)
theorem truth_rgd : truD s (.rg k) = (cellL s.cs[k]?).map fun xs => !xs.isEmpty := by
  show (match (s.cs[k]?).map (·.c) with
    | some (.lst xs) => some (!xs.isEmpty)
    | _ => none) = _
  cases s.cs[k]? with
  | none => rfl
  | some x => cases x with
    | mk b c => cases c <;> rfl
@[scoped simp] theorem att_rd {f : Tx} (hi : insOf s x = some (c, fs)) : ((insOf s x).bind fun p => if p.1 = c then p.2.lookup f else none) = fs.lookup f := by rw [hi]; simp
end
/-! by the cells alone -/
def InsA (cs : List CS) (d : D) (c : Nat) (fs : List (Tx × D)) : Prop := ∀ bs, insOf ⟨bs, cs⟩ d = some (c, fs)
def DctA (cs : List CS) (d : D) (t : Bool) (kvs : List (Ky × D)) : Prop := ∀ bs, dctOf ⟨bs, cs⟩ d = some (t, kvs)
section
variable {cs new : List CS} {d : D} {c : Nat} {fs : List (Tx × D)} {t : Bool} {kvs : List (Ky × D)}
theorem get_app {k : Nat} {x : CS} (h : cs[k]? = some x) : (cs ++ new)[k]? = some x := by
  rw [List.getElem?_append_left (List.getElem?_eq_some_iff.mp h).1]; exact h
theorem InsA.app (h : InsA cs d c fs) : InsA (cs ++ new) d c fs := fun bs => by
  have := h bs
  cases d with
  | rg k =>
    simp only [ins_rg] at this ⊢
    cases e : cs[k]? with
    | none => rw [e] at this; cases this
    | some x => rw [e] at this; rw [get_app e]; exact this
  | _ => exact this
theorem DctA.app (h : DctA cs d t kvs) : DctA (cs ++ new) d t kvs := fun bs => by
  have := h bs
  cases d with
  | rg k =>
    simp only [dct_rg] at this ⊢
    cases e : cs[k]? with
    | none => rw [e] at this; cases this
    | some x => rw [e] at this; rw [get_app e]; exact this
  | _ => exact this
end
theorem getK_none {kvs : List (Ky × D)} {k : Ky} (h : k ∉ kvs.map (·.1)) : getK kvs k = none := by
  unfold getK
  rw [List.find?_eq_none.mpr]
  · rfl
  · intro p hp e
    exact h (List.mem_map.mpr ⟨p, hp, by simpa using e⟩)
theorem getK_some {kvs : List (Ky × D)} {k : Ky} {v : D} (hn : (kvs.map (·.1)).Nodup) (h : (k, v) ∈ kvs) : getK kvs k = some v := by
  induction kvs with
  | nil => cases h
  | cons p ps ih =>
    unfold getK
    rw [List.map_cons, List.nodup_cons] at hn
    rw [List.find?_cons]
    rcases List.mem_cons.mp h with rfl | h
    · simp
    · have : p.1 ≠ k := fun e => hn.1 (e ▸ List.mem_map.mpr ⟨_, h, rfl⟩)
      rw [decide_eq_false this]
      exact ih hn.2 h
theorem putK_new {kvs : List (Ky × D)} {k : Ky} {v : D} (h : k ∉ kvs.map (·.1)) : putK kvs k v = kvs ++ [(k, v)] := by
  unfold putK
  rw [if_neg]
  intro e
  obtain ⟨p, hp, e⟩ := List.any_eq_true.mp e
  exact h (List.mem_map.mpr ⟨p, hp, by simpa using e⟩)
/-! walks of locked dicts -/
def unlockF (n : Nat) (r : F) : F := match r with
  | .nx e s => .nx e (lockAt s n false)
  | .rt d s => .rt d (lockAt s n false)
  | r => r
@[scoped simp] theorem unlockF_nx {n : Nat} {e : Env} {s : S} : unlockF n (.nx e s) = .nx e (lockAt s n false) := (rfl)
@[scoped simp] theorem unlockF_rt {n : Nat} {d : D} {s : S} : unlockF n (.rt d s) = .rt d (lockAt s n false) := (rfl)
section
variable {K : Calls} {e : Env} {s : S} {tg : Tg} {es : List DE} {ta : List DS} {n : Nat} {kvs : List (Ky × D)} {xs : List D}
theorem x_loop1 {k : IK} : evS K (.loop true tg k es ta) e s = lockF (evEs K es e s) s fun s => evS K (.loop false tg k es ta) e s := by
  simp only [evS]
  rfl
theorem lock_cs {b : Bool} {c : Cell} (h : s.cs[n]? = some ⟨b, c⟩) (b2 : Bool) : lockAt s n b2 = ⟨s.bs, s.cs.set n ⟨b2, c⟩⟩ := by
  unfold lockAt
  rw [h]
theorem loop_keys (h1 : ∀ s, evEs K es e s = .ok [.rg n] s) (hn : s.cs[n]? = some ⟨false, .dct false kvs⟩) : evS K (.loop true tg .keys es ta) e s = unlockF n (forL (loopT K tg ta) (kvs.map fun p => kyD p.1) e (lockAt s n true)) := by
  rw [x_loop1, h1]
  unfold lockF lockCell
  simp only [hn]
  have h2 : evS K (.loop false tg .keys es ta) e (lockAt s n true) = forL (loopT K tg ta) (kvs.map fun p => kyD p.1) e (lockAt s n true) := by
    rw [x_loop0, h1]
    have : items (lockAt s n true) .keys [.rg n] = some (kvs.map fun p => kyD p.1, none) := by
      show (match (lockAt s n true).cs[n]? with
        | some ⟨l, .dct false kvs⟩ => some (kvs.map fun (p : Ky × D) => kyD p.1, if l then none else some n)
        | _ => none) = _
      rw [lock_at hn]; rfl
    simp only [st_ok, this, onIt_some]
  rw [h2]
  generalize forL (loopT K tg ta) (kvs.map fun p => kyD p.1) e (lockAt s n true) = r
  cases r <;> rfl
end
/-! texts in order -/
def sortT (xs : List Tx) : List Tx := xs.mergeSort fun a b => !decide (b < a)
theorem sort_str (xs : List Tx) : sortD (xs.map .str) = (sortT xs).map .str := by
  unfold sortD sortT
  rw [List.map_mergeSort]
  intro a _ b _
  rfl
theorem canSort_str (xs : List Tx) : canSort (xs.map .str) = true := by
  unfold canSort
  rw [Bool.and_eq_true, Bool.or_eq_true]
  refine ⟨List.all_eq_true.mpr fun x hx => ?_, .inr (List.all_eq_true.mpr fun x hx => ?_)⟩
  · obtain ⟨p, _, rfl⟩ := List.mem_map.mp hx
    rw [Bool.and_eq_true]
    refine ⟨rfl, List.all_eq_true.mpr fun y hy => ?_⟩
    obtain ⟨q, _, rfl⟩ := List.mem_map.mp hy
    rfl
  · obtain ⟨p, _, rfl⟩ := List.mem_map.mp hx
    rfl
theorem sortT_len (xs : List Tx) : (sortT xs).length = xs.length := List.length_mergeSort _
theorem leT_total (a b : Tx) : ((!decide (b < a)) || !decide (a < b)) = true := by
  rcases Classical.em (b < a) with h | h
  · have : ¬ a < b := Std.not_lt.mpr (Std.le_of_lt h)
    simp [this]
  · simp [h]
theorem leT_trans (a b c : Tx) (h : (!decide (b < a)) = true) (h2 : (!decide (c < b)) = true) : (!decide (c < a)) = true := by
  simp only [Bool.not_eq_true', decide_eq_false_iff_not] at *
  exact Std.not_lt.mpr (List.le_trans (Std.not_lt.mp h) (Std.not_lt.mp h2))
theorem leT_anti {a b : Tx} (h : (!decide (b < a)) = true) (h2 : (!decide (a < b)) = true) : a = b := by
  simp only [Bool.not_eq_true', decide_eq_false_iff_not] at *
  exact List.le_antisymm (Std.not_lt.mp h) (Std.not_lt.mp h2)
theorem sortT_to {xs ys : List Tx} (hp : xs.Perm ys) (hs : ys.Pairwise fun a b => (!decide (b < a)) = true) : sortT xs = ys :=
  List.Perm.eq_of_pairwise (fun a b _ _ h1 h2 => leT_anti h1 h2) (List.pairwise_mergeSort (fun a b c => leT_trans a b c) (fun a b => leT_total a b) xs) hs ((List.mergeSort_perm xs _).trans hp)
end M.Ev

set_option Elab.async false
set_option linter.all false
set_option maxRecDepth 100000
set_option maxHeartbeats 1000000
set_option autoImplicit false
/-! P01a: the draws. -/
namespace Law
open M M.Ev
def tw (n : Nat) : CS := ⟨false, .lst (List.replicate n (.int 0))⟩
def cellv (ns : List Int) (k : Int) : Int := if ns = [] then 0 else ns.getD (k % (ns.length : Nat)).toNat 0
theorem r_cell {n : Nat} {ns : List Int} {k : Int} {s : S} : runF TB (n + 1) 7 [.scr ns, .int k] s = .ok (.int (cellv ns k)) s := by
  cases ns with
  | nil => rfl
  | cons a ns =>
    have hl : (0 : Int) < ((a :: ns).length : Nat) := by simp
    have h0 := Int.emod_nonneg k (show ((a :: ns).length : Int) ≠ 0 by omega)
    have h1 := Int.emod_lt_of_pos k hl
    have e2 : (atI ((a :: ns).map D.int) (k % ((a :: ns).length : Nat))) = some (.int (cellv (a :: ns) k)) := by
      unfold atI ixN cellv
      rw [if_pos h0, if_pos (by simpa using h1), if_neg (by simp)]
      simp only [Option.bind_some]
      rw [List.getElem?_map, List.getElem?_eq_getElem (by omega)]
      simp only [Option.map_some, List.getD_eq_getElem?_getD]
      rw [List.getElem?_eq_getElem (by omega)]
      rfl
    have e0 : truD s (.scr (a :: ns)) = some true := rfl
    have e1 : callB s .len [.scr (a :: ns)] = some (.int ((ns.length : Nat) + 1)) := by
      show some (D.int ((a :: ns).map D.int).length) = _
      rw [List.length_map]; rfl
    have e4 : subD s (.scr (a :: ns)) (.int (k % ((ns.length : Nat) + 1))) = some (.int (cellv (a :: ns) k)) := e2
    have hl' : (0 : Int) < (ns.length : Nat) + 1 := by omega
    rw [run_of (fd := ⟨2, 2, b__law_cell⟩) rfl rfl]
    simp [b__law_cell, e0, e1, b_mod hl', e4]
theorem f_cell {n : Nat} {ns : List Int} {k : Int} {s : S} : (KF TB (n + 1)).fnF 7 [.scr ns, .int k] s = .ok (.int (cellv ns k)) s :=
  fnF_plain (new := []) (by rw [List.append_nil]; exact r_cell) rfl
def mixv (ns : List Int) (k : Int) : Int :=
  ((((cellv ns k + 104729 * (k + 1)) % 4294967291) ^ 5 % 4294967279) / 64 * 69621 + (((cellv ns k + 104729 * (k + 1)) % 4294967291) ^ 5 % 4294967279)) % 4294967231
theorem r_mix {n : Nat} {ns : List Int} {k : Int} {s : S} : runF TB (n + 2) 8 [.scr ns, .int k] s = .ok (.int (mixv ns k)) s := by
  have b5 : ∀ i : Int, binD s .pow (.int (i % 4294967291)) (.int 5) = some (.int ((i % 4294967291) ^ 5)) := fun i => by
    have h0 := Int.emod_nonneg i (show (4294967291 : Int) ≠ 0 by decide)
    have h1 := Int.emod_lt_of_pos i (show (0 : Int) < 4294967291 by decide)
    show (if (0 : Int) ≤ 5 ∧ (5 : Int) ≤ 1000000 ∧ (i % 4294967291).natAbs < 2 ^ 64 then some ((i % 4294967291) ^ 5) else none).map D.int = _
    rw [if_pos ⟨by decide, by decide, by omega⟩]; rfl
  rw [run_of (fd := ⟨2, 3, b__law_mix⟩) rfl rfl]
  have b2 : ∀ j : Int, binD s .mul (.int 104729) (.int j) = some (.int (104729 * j)) := fun j => b_mul (.inl (by decide))
  have b2' : ∀ j : Int, binD s .mul (.int j) (.int 69621) = some (.int (j * 69621)) := fun j => b_mul (.inr (by decide))
  have m1 : ∀ i : Int, binD s .mod (.int i) (.int 4294967291) = some (.int (i % 4294967291)) := fun i => b_mod (by decide)
  have m2 : ∀ i : Int, binD s .mod (.int i) (.int 4294967279) = some (.int (i % 4294967279)) := fun i => b_mod (by decide)
  have m3 : ∀ i : Int, binD s .mod (.int i) (.int 4294967231) = some (.int (i % 4294967231)) := fun i => b_mod (by decide)
  have b4 : ∀ i : Int, binD s .fdiv (.int i) (.int 64) = some (.int (i / 64)) := fun i => rfl
  simp [b__law_mix, f_cell, b2, b2', m1, m2, m3, b4, b5, mixv]
theorem f_mix {n : Nat} {ns : List Int} {k : Int} {s : S} : (KF TB (n + 2)).fnF 8 [.scr ns, .int k] s = .ok (.int (mixv ns k)) s :=
  fnF_plain (new := []) (by rw [List.append_nil]; exact r_mix) rfl
def drawv (ns : List Int) (n : Nat) (many : Int) : Int := mixv ns (n + 1) / 8 % many
theorem r_draw {m n : Nat} {ns : List Int} {many : Int} {bs : List Nat} {rest : List CS} (hn : n < LIM) (hm : 0 < many) : runF TB (m + 3) 9 [.scr ns, .rg 0, .int many] ⟨bs, tw n :: rest⟩ = .ok (.int (drawv ns n many)) ⟨bs, tw (n + 1) :: rest⟩ := by
  have c1 : ∀ (bs : List Nat) (rest : List CS), callB ⟨bs, tw (n + 1) :: rest⟩ .len [.rg 0] = some (.int ((n : Int) + 1)) := fun bs rest => by
    show some (D.int ((List.replicate (n + 1) (D.int 0)).length : Nat)) = _
    rw [List.length_replicate]; rfl
  have c2 : ∀ (bs : List Nat) (rest : List CS), bmOk ⟨bs, tw n :: rest⟩ .append (.rg 0) = true := fun _ _ => rfl
  have c3 : callM ⟨bs, tw n :: rest⟩ .append (.rg 0) [.int 0] = .ok .non ⟨bs, tw (n + 1) :: rest⟩ := by
    rw [m_append (xs := List.replicate n (.int 0)) rfl (by simpa using hn) (may_plain rfl)]
    simp only [setCell, List.set_cons_zero, ← List.replicate_succ']
    rfl
  have b4 : ∀ (s : S) (i : Int), binD s .fdiv (.int i) (.int 8) = some (.int (i / 8)) := fun s i => rfl
  rw [run_of (fd := ⟨3, 3, b__law_draw⟩) rfl rfl]
  simp [b__law_draw, f_mix, b_mod hm, b4, c1, c2, c3, drawv]
theorem f_draw {m n : Nat} {ns : List Int} {many : Int} {bs : List Nat} {rest : List CS} (hn : n < LIM) (hm : 0 < many) : (KF TB (m + 3)).fnF 9 [.scr ns, .rg 0, .int many] ⟨bs, tw n :: rest⟩ = .ok (.int (drawv ns n many)) ⟨bs, tw (n + 1) :: rest⟩ := by
  have h := fnF_st (K := KF TB (m + 3)) (f := 9) (as := [.scr ns, .rg 0, .int many]) (s := ⟨bs, tw n :: rest⟩) (d := .int (drawv ns n many)) (cs' := tw (n + 1) :: rest) (r_draw hn hm) rfl
  rw [h]
  simp
theorem draw_lt (ns : List Int) (n : Nat) {many : Int} (hm : 0 < many) : 0 ≤ drawv ns n many ∧ drawv ns n many < many := ⟨Int.emod_nonneg _ (by omega), Int.emod_lt_of_pos _ hm⟩
/-- a draw below a number, as a number -/
def drawN (ns : List Int) (n : Nat) (many : Nat) : Nat := (drawv ns n (many : Nat)).toNat
theorem drawN_lt (ns : List Int) (n : Nat) {many : Nat} (hm : 0 < many) : drawN ns n many < many := by
  have := draw_lt ns n (show (0 : Int) < (many : Nat) by omega)
  unfold drawN
  omega
theorem f_drawN {m n : Nat} {ns : List Int} {many : Nat} {bs : List Nat} {rest : List CS} (hn : n < LIM) (hm : 0 < many) : (KF TB (m + 3)).fnF 9 [.scr ns, .rg 0, .int (many : Nat)] ⟨bs, tw n :: rest⟩ = .ok (.int (drawN ns n many : Nat)) ⟨bs, tw (n + 1) :: rest⟩ := by
  rw [f_draw hn (by omega)]
  have := draw_lt ns n (show (0 : Int) < (many : Nat) by omega)
  unfold drawN
  rw [Int.toNat_of_nonneg this.1]
theorem plain_mem {n : Nat} {xs : List D} (h : plainDs n xs = true) : ∀ x ∈ xs, plainD n x = true := by
  induction xs with
  | nil => intro x h; cases h
  | cons y ys ih =>
    rw [plainDs, Bool.and_eq_true] at h
    intro x hx
    rcases List.mem_cons.mp hx with rfl | hx
    · exact h.1
    · exact ih h.2 x hx
theorem sub_lst {s : S} {xs : List D} {k : Nat} (h : k < xs.length) : subD s (.lst xs) (.int (k : Nat)) = some xs[k] := by
  show atI xs _ = _
  unfold atI ixN
  rw [if_pos (by omega), if_pos (by omega)]
  simp [List.getElem?_eq_getElem h]
/-- a pick -/
theorem r_pick {m n : Nat} {ns : List Int} {xs : List D} {bs : List Nat} {rest : List CS} (hn : n < LIM) (hx : 0 < xs.length) : runF TB (m + 4) 10 [.scr ns, .rg 0, .lst xs] ⟨bs, tw n :: rest⟩ = .ok (xs[drawN ns n xs.length]'(drawN_lt ns n hx)) ⟨bs, tw (n + 1) :: rest⟩ := by
  rw [run_of (fd := ⟨3, 3, b__law_pick⟩) rfl rfl]
  have e1 : ∀ s : S, subD s (.lst xs) (.int (drawN ns n xs.length : Nat)) = some (xs[drawN ns n xs.length]'(drawN_lt ns n hx)) := fun s => sub_lst _
  simp [b__law_pick, f_drawN hn hx, e1]
theorem f_pick {m n : Nat} {ns : List Int} {xs : List D} {bs : List Nat} {rest : List CS} (hn : n < LIM) (hx : 0 < xs.length) (hp : plainD 8 (.lst xs) = true) : (KF TB (m + 4)).fnF 10 [.scr ns, .rg 0, .lst xs] ⟨bs, tw n :: rest⟩ = .ok (xs[drawN ns n xs.length]'(drawN_lt ns n hx)) ⟨bs, tw (n + 1) :: rest⟩ := by
  have hd := drawN_lt ns n hx
  have h := fnF_st (K := KF TB (m + 4)) (f := 10) (as := [.scr ns, .rg 0, .lst xs]) (s := ⟨bs, tw n :: rest⟩) (d := xs[drawN ns n xs.length]'(drawN_lt ns n hx)) (cs' := tw (n + 1) :: rest) (r_pick hn hx) (plain_mono (by decide) (plain_mem (n := 7) hp _ (List.getElem_mem hd)))
  rw [h]; simp
end Law

set_option Elab.async false
set_option linter.all false
set_option maxRecDepth 100000
set_option maxHeartbeats 1000000
set_option autoImplicit false
/-! P01b: grids. -/
namespace Law
open M M.Ev
def sg (b : Bool) : Nat := if b then 35 else 46
def grow (w : Nat) (f : Nat → Bool) : Tx := (List.range w).map fun c => sg (f c)
def grows (h w : Nat) (p : Nat → Nat → Bool) : List Tx := (List.range h).map fun r => grow w (p r)
def grid (h w : Nat) (p : Nat → Nat → Bool) : D := .tup ((grows h w p).map .str)
theorem grow_len {w : Nat} {f : Nat → Bool} : (grow w f).length = w := by simp [grow]
theorem grows_len {h w : Nat} {p : Nat → Nat → Bool} : (grows h w p).length = h := by simp [grows]
theorem grow_at {w : Nat} {f : Nat → Bool} {c : Nat} (hc : c < w) : (grow w f)[c]? = some (sg (f c)) := by
  unfold grow
  rw [List.getElem?_map, List.getElem?_range hc]; rfl
theorem grows_at {h w : Nat} {p : Nat → Nat → Bool} {r : Nat} (hr : r < h) : (grows h w p)[r]? = some (grow w (p r)) := by
  unfold grows
  rw [List.getElem?_map, List.getElem?_range hr]; rfl
theorem grid_eq {h w : Nat} {p : Nat → Nat → Bool} : grid h w p = .tup ((List.range h).map fun r => D.str (grow w (p r))) := by
  unfold grid grows
  rw [List.map_map]; rfl
theorem atI_nat {α : Type} {xs : List α} {n : Nat} : atI xs (n : Int) = xs[n]? := by
  unfold atI ixN
  rw [if_pos (by omega)]
  by_cases h : (n : Int) < (xs.length : Nat)
  · rw [if_pos h]; simp
  · rw [if_neg h]; simp at h; simp [h]
theorem sub_row {s : S} {h w : Nat} {p : Nat → Nat → Bool} {r : Nat} (hr : r < h) : subD s (grid h w p) (.int (r : Nat)) = some (.str (grow w (p r))) := by
  show atI ((grows h w p).map D.str) (r : Int) = _
  rw [atI_nat, List.getElem?_map, grows_at hr]; rfl
theorem sub_sign {s : S} {w : Nat} {f : Nat → Bool} {c : Nat} (hc : c < w) (hw : w ≤ LIM) : subD s (.str (grow w f)) (.int (c : Nat)) = some (.str [sg (f c)]) := by
  show (if (grow w f).length ≤ LIM then (atI (grow w f) (c : Int)).map fun c => D.str [c] else none) = _
  rw [grow_len, if_pos hw, atI_nat, grow_at hc]; rfl
theorem len_grid {s : S} {h w : Nat} {p : Nat → Nat → Bool} : callB s .len [grid h w p] = some (.int (h : Nat)) := by
  show some (D.int (((grows h w p).map D.str).length : Nat)) = _
  rw [List.length_map, grows_len]
theorem len_row {s : S} {w : Nat} {f : Nat → Bool} (hw : w ≤ LIM) : callB s .len [.str (grow w f)] = some (.int (w : Nat)) := by
  show (if (grow w f).length ≤ LIM then some (D.int ((grow w f).length : Nat)) else none) = _
  rw [grow_len, if_pos hw]
theorem range_rev : ∀ n : Nat, (List.range n).reverse = (List.range n).map fun i => n - 1 - i := fun n => by
  apply List.ext_getElem
  · simp
  · intro i h1 h2
    simp at h1
    simp
theorem txsOf_str : ∀ xs : List Tx, txsOf (xs.map D.str) = some xs
  | [] => rfl
  | x :: xs => by simp [txsOf, txsOf_str xs]
theorem sum_ones {α : Type} : ∀ (xs : List α), (xs.map fun _ => 1).sum = xs.length
  | [] => rfl
  | _ :: xs => by simp [sum_ones xs]; omega
theorem join_signs {α : Type} {s : S} {as : List α} {g : α → Nat} (h : as.length ≤ LIM) : callM s .join (D.str []) [.lst (as.map fun a => D.str [g a])] = R.ok (D.str (as.map g)) s := by
  have e1 : (seqOf s (.lst (as.map fun a => D.str [g a]))).bind txsOf = some (as.map fun a => [g a]) := by
    show txsOf (as.map fun a => D.str [g a]) = some (as.map fun a => [g a])
    have := txsOf_str (as.map fun a => [g a])
    rw [List.map_map] at this
    exact this
  show (match (seqOf s (.lst (as.map fun a => D.str [g a]))).bind txsOf with
      | some xs => if (xs.map List.length).sum + xs.length * ([] : Tx).length ≤ LIM then R.ok (D.str (joinT [] xs)) s else .bad
      | none => .bad) = _
  rw [e1]
  have e2 : ((as.map fun a => [g a]).map List.length).sum = as.length := by
    rw [List.map_map]
    exact sum_ones as
  simp only [e2, List.length_nil, Nat.mul_zero, Nat.add_zero, h, if_true, join_nil]
  have e3 : (as.map fun a => [g a]).flatten = as.map g := by
    clear e1 e2 h
    induction as with
    | nil => rfl
    | cons a as ih => simp [ih]
  rw [e3]
/-- the turned grid -/
def tp (h : Nat) (p : Nat → Nat → Bool) : Nat → Nat → Bool := fun r c => p (h - 1 - c) r
theorem rev_grid {s : S} {h w : Nat} {p : Nat → Nat → Bool} : revD s (grid h w p) = some (.tup ((List.range h).map fun i => D.str (grow w (p (h - 1 - i))))) := by
  show some (D.tup (((grows h w p).map D.str).reverse)) = _
  rw [← List.map_reverse]
  unfold grows
  rw [← List.map_reverse, range_rev, List.map_map, List.map_map]
  rfl
theorem it_grid {s : S} {h w : Nat} {p : Nat → Nat → Bool} : items s .e [grid h w p] = some ((List.range h).map (fun r => D.str (grow w (p r))), none) := by rw [grid_eq]; rfl
theorem LIM62 {n : Nat} (h : n ≤ LIM) : n < 2 ^ 62 := Nat.lt_of_le_of_lt h (by decide)
theorem r_turn {n h w : Nat} {p : Nat → Nat → Bool} {s : S} (h0 : 0 < h) (hh : h ≤ LIM) (hw : w ≤ LIM) : runF TB (n + 1) 1 [grid h w p] s = .ok (grid w h (tp h p)) s := by
  rw [run_of (fd := ⟨1, 3, b_turn_once⟩) rfl rfl]
  have e0 : subD s (grid h w p) (.int 0) = some (.str (grow w (p 0))) := sub_row (r := 0) h0
  have h2 : ∀ l : List D, bmOk s .join (.str []) = true := fun _ => rfl
  simp [b_turn_once, e0, len_row hw, it_r1 (LIM62 hw), hw]
  rw [lcMap (f := fun k => D.str (grow h (tp h p k)))]
  · simp [grid_eq]
  · intro k hk
    have hk := List.mem_range.mp hk
    simp [lcT_none, rev_grid, bmOk, hh]
    rw [lcMap (f := fun i => D.str [sg (p (h - 1 - i) k)])]
    · simp [join_signs (s := s) (as := List.range h) (g := fun i => sg (p (h - 1 - i) k)) (by simpa using hh)]
      rfl
    · intro i hi
      simp [lcT_none, sub_sign hk hw]
end Law

set_option Elab.async false
set_option linter.all false
set_option maxRecDepth 100000
set_option maxHeartbeats 1000000
set_option autoImplicit false
/-! P01c: a good shape is let pass. -/
namespace Law
open M M.Ev
/-- a good grid -/
structure Good (h w : Nat) (p : Nat → Nat → Bool) : Prop where
  h1 : 1 ≤ h
  h4 : h ≤ 4
  w1 : 1 ≤ w
  w4 : w ≤ 4
  top : ∃ c, c < w ∧ p 0 c = true
  bot : ∃ c, c < w ∧ p (h - 1) c = true
  lft : ∃ r, r < h ∧ p r 0 = true
  rgt : ∃ r, r < h ∧ p r (w - 1) = true
theorem Good.turn {h w : Nat} {p : Nat → Nat → Bool} (g : Good h w p) : Good w h (tp h p) := by
  obtain ⟨h1, h4, w1, w4, ⟨c1, a1, b1⟩, ⟨c2, a2, b2⟩, ⟨r1, a3, b3⟩, ⟨r2, a4, b4⟩⟩ := g
  refine ⟨w1, w4, h1, h4, ⟨h - 1 - r1, by omega, ?_⟩, ⟨h - 1 - r2, by omega, ?_⟩, ⟨c2, a2, ?_⟩, ⟨c1, a1, ?_⟩⟩
  · unfold tp; rw [show h - 1 - (h - 1 - r1) = r1 by omega]; exact b3
  · unfold tp; rw [show h - 1 - (h - 1 - r2) = r2 by omega]; exact b4
  · unfold tp; simpa using b2
  · unfold tp; rw [show h - 1 - (h - 1) = 0 by omega]; exact b1
def gtext (h w : Nat) (p : Nat → Nat → Bool) : Tx := (List.range h).flatMap fun r => (List.range w).map fun c => sg (p r c)
theorem gtext_len {h w : Nat} {p : Nat → Nat → Bool} (h4 : h ≤ 4) (w4 : w ≤ 4) : (gtext h w p).length ≤ LIM := by
  have : (gtext h w p).length = h * w := by
    unfold gtext
    rw [List.length_flatMap]
    simp only [List.length_map, List.length_range]
    rw [List.map_const', List.length_range, List.sum_replicate_nat]
  rw [this]
  have h2 : h * w ≤ 4 * 4 := Nat.mul_le_mul h4 w4
  have h3 : (16 : Nat) ≤ LIM := by decide
  omega
theorem gtext_mem {h w : Nat} {p : Nat → Nat → Bool} {c : Nat} (hc : c ∈ gtext h w p) : ∃ b, c = sg b := by
  obtain ⟨r, _, hr⟩ := List.mem_flatMap.mp hc
  obtain ⟨k, _, rfl⟩ := List.mem_map.mp hr
  exact ⟨_, rfl⟩
theorem join_grid {s : S} {h w : Nat} {p : Nat → Nat → Bool} (hh : h ≤ 4) (hw : w ≤ 4) : callM s .join (D.str []) [grid h w p] = .ok (D.str (gtext h w p)) s := by
  have e1 : (seqOf s (grid h w p)).bind txsOf = some (grows h w p) := txsOf_str (grows h w p)
  have e2 : ((grows h w p).map List.length).sum + (grows h w p).length * ([] : Tx).length ≤ LIM := by
    have : ((grows h w p).map List.length) = List.replicate h w := by
      unfold grows
      rw [List.map_map]
      have : (List.length ∘ fun r => grow w (p r)) = fun _ => w := by funext r; simp [grow_len]
      rw [this, List.map_const', List.length_range]
    rw [this, List.sum_replicate_nat]
    have : h * w ≤ 4 * 4 := Nat.mul_le_mul hh hw
    have : (16 : Nat) ≤ LIM := by decide
    simp; omega
  show (match (seqOf s (grid h w p)).bind txsOf with
      | some xs => if (xs.map List.length).sum + xs.length * ([] : Tx).length ≤ LIM then R.ok (D.str (joinT [] xs)) s else .bad
      | none => .bad) = _
  rw [e1]
  simp only [e2, if_true, join_nil]
  congr 2
theorem atI_last {α : Type} {xs : List α} (h : 0 < xs.length) : atI xs (-1) = xs[xs.length - 1]? := by
  unfold atI ixN
  rw [if_neg (by omega), if_pos (by omega)]
  simp only [Option.bind_some]
  congr 1
  omega
theorem sub_last {s : S} {h w : Nat} {p : Nat → Nat → Bool} (h1 : 1 ≤ h) : subD s (grid h w p) (.int (-1)) = some (.str (grow w (p (h - 1)))) := by
  show atI ((grows h w p).map D.str) (-1) = _
  rw [atI_last (by rw [List.length_map, grows_len]; omega), List.length_map, grows_len, List.getElem?_map, grows_at (by omega)]; rfl
theorem sub_lastc {s : S} {w : Nat} {f : Nat → Bool} (w1 : 1 ≤ w) (hw : w ≤ LIM) : subD s (.str (grow w f)) (.int (-1)) = some (.str [sg (f (w - 1))]) := by
  show (if (grow w f).length ≤ LIM then (atI (grow w f) (-1)).map fun c => D.str [c] else none) = _
  rw [grow_len, if_pos hw, atI_last (by rw [grow_len]; omega), grow_len, grow_at (by omega)]; rfl
theorem mark_in {s : S} {w : Nat} {f : Nat → Bool} : cmpD s .inn (.str [35]) (.str (grow w f)) = some ((List.range w).any f) := by
  show some (decide (35 ∈ grow w f)) = _
  congr 1
  rw [Bool.eq_iff_iff, decide_eq_true_eq, List.any_eq_true]
  unfold grow
  simp only [List.mem_map]
  constructor
  · rintro ⟨c, hc, e⟩
    refine ⟨c, hc, ?_⟩
    cases hf : f c with
    | true => rfl
    | false => rw [hf] at e; cases e
  · rintro ⟨c, hc, e⟩
    exact ⟨c, hc, by rw [e]; rfl⟩
theorem mark_eq {s : S} {b : Bool} : cmpD s .eq (.str [sg b]) (.str [35]) = some b := by cases b <;> rfl
theorem sg_35 {b : Bool} : (sg b = 35) = (b = true) := by cases b <;> simp [sg]
theorem LIM4 {n : Nat} (h : n ≤ 4) : n ≤ LIM := Nat.le_trans h (by decide)
theorem decL {n m : Nat} (h : n ≤ m) : decide (n ≤ m) = true := decide_eq_true h
/-- the whole text of a grid -/
theorem r_look {n h w : Nat} {p : Nat → Nat → Bool} {s : S} (g : Good h w p) : runF TB (n + 1) 0 [grid h w p] s = .ok .non s := by
  obtain ⟨h1, h4, w1, w4, tp', bt, lf, rt⟩ := g
  have hw := LIM4 w4
  have hh := LIM4 h4
  have h1' : 1 ≤ (h : Int) := by omega
  have h4' : (h : Int) ≤ 4 := by omega
  have w1' : 1 ≤ (w : Int) := by omega
  have w4' : (w : Int) ≤ 4 := by omega
  have e0 : subD s (grid h w p) (.int 0) = some (.str (grow w (p 0))) := sub_row (r := 0) (by omega)
  have anyT : ∀ (n : Nat) (f : Nat → Bool), (∃ c, c < n ∧ f c = true) → (List.range n).any f = true := fun n f ⟨c, hc, e⟩ => List.any_eq_true.mpr ⟨c, List.mem_range.mpr hc, e⟩
  have sgn : ∀ b : Bool, cmpD s .inn (.str [sg b]) (.tup [.str [35], .str [46]]) = some true := fun b => by cases b <;> rfl
  have hL2 : 2 ≤ LIM := by decide
  rw [run_of (fd := ⟨1, 5, b_look_shape⟩) rfl rfl]
  simp [b_look_shape, len_grid, e0, len_row hw, h1', h4', w1', w4', it_grid, hh]
  rw [lcMap (f := fun _ => D.bl true) (fun r hr => by simp [lcT_none, e0, len_row hw])]
  simp [bmOk, join_grid h4 w4, gtext_len h4 w4]
  rw [lcMap (f := fun _ => D.bl true) (fun c hc => by obtain ⟨b, rfl⟩ := gtext_mem hc; simp [lcT_none, sgn, hL2])]
  simp [e0, sub_last h1, hL2]
  rw [show [D.str (grow w (p 0)), D.str (grow w (p (h - 1)))] = [0, h - 1].map (fun r => D.str (grow w (p r))) from rfl, lcMap (f := fun _ => D.bl true) (fun r hr => by
    have : (List.range w).any (p r) = true := by
      rcases List.mem_cons.mp hr with rfl | hr
      · exact anyT _ _ tp'
      · rw [List.mem_singleton.mp hr]; exact anyT _ _ bt
    simp [lcT_none, mark_in, this])]
  simp [hL2]
  have l5 : ∀ (k : Int) (c : Nat), (∀ r, subD s (.str (grow w (p r))) (.int k) = some (.str [sg (p r c)])) → (∃ r, r < h ∧ p r c = true) → lcT (KF TB n) ⟨[4], false⟩ none (.bi .any [.lc false false ⟨[2], false⟩ .e [.var 0] none (.cmp .eq (.sub (.var 2) (.var 4)) (.con (.str [35]))) [2]]) [4] [some (grid h w p), some (.bl true), none, none, none] (.int k) s = .ok (some (.bl true)) s := fun k c hk hex => by
    simp [lcT_none, it_grid, hh]
    rw [lcMap (f := fun r => D.bl (p r c)) (fun r hr => by simp [lcT_none, hk, sg_35])]
    simp [List.any_map, Function.comp_def, anyT h (fun r => p r c) hex]
  rw [show [D.int 0, D.int (-1)] = [(0 : Int), -1].map D.int from rfl, lcMap (f := fun _ => D.bl true) (fun k hk => by
    rcases List.mem_cons.mp hk with rfl | hk
    · exact l5 0 0 (fun r => sub_sign (c := 0) (by omega) hw) lf
    · rw [List.mem_singleton.mp hk]; exact l5 (-1) (w - 1) (fun r => sub_lastc w1 hw) rt)]
  simp [hL2]
theorem f_look {n h w : Nat} {p : Nat → Nat → Bool} {s : S} (g : Good h w p) : (KF TB (n + 1)).fnF 0 [grid h w p] s = .ok .non s :=
  fnF_plain (new := []) (by rw [List.append_nil]; exact r_look g) rfl
theorem plain_strs : ∀ xs : List Tx, plainDs 7 (xs.map D.str) = true
  | [] => rfl
  | x :: xs => by simp [plainDs, plainD, plain_strs xs]
theorem plain_grid {h w : Nat} {p : Nat → Nat → Bool} : plainD 8 (grid h w p) = true := by
  show plainDs 7 ((grows h w p).map D.str) = true
  exact plain_strs _
theorem f_turn {n h w : Nat} {p : Nat → Nat → Bool} {s : S} (g : Good h w p) : (KF TB (n + 1)).fnF 1 [grid h w p] s = .ok (grid w h (tp h p)) s :=
  fnF_plain (new := []) (by rw [List.append_nil]; exact r_turn (by have := g.h1; omega) (LIM4 g.h4) (LIM4 g.w4)) plain_grid
end Law

set_option Elab.async false
set_option linter.all false
set_option maxRecDepth 100000
set_option maxHeartbeats 1000000
set_option autoImplicit false
/-! P01d: turned, cells, size, turns_of, is_alike. -/
namespace Law
open M M.Ev
structure Sh where
  h : Nat
  w : Nat
  p : Nat → Nat → Bool
def Sh.enc (x : Sh) : D := grid x.h x.w x.p
def Sh.turn (x : Sh) : Sh := ⟨x.w, x.h, tp x.h x.p⟩
def Sh.ok (x : Sh) : Prop := Good x.h x.w x.p
def Sh.turns (x : Sh) : Nat → Sh
  | 0 => x
  | n + 1 => (x.turns n).turn
theorem Sh.ok.turn {x : Sh} (g : x.ok) : x.turn.ok := Good.turn g
theorem Sh.ok.turns {x : Sh} (g : x.ok) : ∀ n, (x.turns n).ok
  | 0 => g
  | n + 1 => (g.turns n).turn
theorem plain_enc {x : Sh} : plainD 8 x.enc = true := plain_grid
theorem f_look' {n : Nat} {x : Sh} {s : S} (g : x.ok) : (KF TB (n + 1)).fnF 0 [x.enc] s = .ok .non s := f_look g
theorem f_turn' {n : Nat} {x : Sh} {s : S} (g : x.ok) : (KF TB (n + 1)).fnF 1 [x.enc] s = .ok x.turn.enc s := f_turn g
theorem r_turned {n : Nat} {x : Sh} {k : Nat} {s : S} (g : x.ok) : runF TB (n + 2) 2 [x.enc, .int (k : Nat)] s = .ok (x.turns (k % 4)).enc s := by
  rw [run_of (fd := ⟨2, 3, b_turned⟩) rfl rfl]
  simp [b_turned, f_look' g]
  rw [show ((k : Int) % 4) = ((k % 4 : Nat) : Int) by omega, it_r1 (by omega), onIt_some,
    forL_range (E := fun j => [some (x.turns j).enc, some (.int (k : Nat)), lv none (fun i => .int (i : Nat)) j]) (Sg := fun _ => s) ?_ ?_ (fun j hj => by simp [loopT_def, f_turn' (g.turns j), Sh.turns])]
  · simp
  · rfl
  · rfl
theorem f_turned {n : Nat} {x : Sh} {k : Nat} {s : S} (g : x.ok) : (KF TB (n + 2)).fnF 2 [x.enc, .int (k : Nat)] s = .ok (x.turns (k % 4)).enc s :=
  fnF_plain (new := []) (by rw [List.append_nil]; exact r_turned g) plain_grid
/-- the cells, row by row -/
def Sh.row (x : Sh) (r : Nat) : List (Nat × Nat) := ((List.range x.w).filter (x.p r)).map fun c => (r, c)
def Sh.upto (x : Sh) (k : Nat) : List (Nat × Nat) := (List.range k).flatMap x.row
def Sh.cells (x : Sh) : List (Nat × Nat) := x.upto x.h
def cellsD (l : List (Nat × Nat)) : D := .lst (l.map pn)
theorem Sh.upto_succ {x : Sh} {k : Nat} : x.upto (k + 1) = x.upto k ++ x.row k := by
  unfold Sh.upto
  rw [List.range_succ, List.flatMap_append, List.flatMap_singleton]
theorem Sh.row_len {x : Sh} {r : Nat} : (x.row r).length ≤ x.w := by
  unfold Sh.row
  rw [List.length_map]
  exact Nat.le_trans (List.length_filter_le _ _) (by simp)
theorem Sh.upto_len {x : Sh} (k : Nat) : (x.upto k).length ≤ k * x.w := by
  induction k with
  | zero => simp [Sh.upto]
  | succ k ih =>
    rw [Sh.upto_succ, List.length_append, Nat.succ_mul]
    have := x.row_len (r := k)
    omega
theorem Sh.cells_len {x : Sh} (g : x.ok) : x.cells.length ≤ 16 := by
  have h1 := x.upto_len x.h
  have h2 : x.h * x.w ≤ 4 * 4 := Nat.mul_le_mul g.h4 g.w4
  show (x.upto x.h).length ≤ 16
  omega
theorem plain_pn (p : Nat × Nat) (n : Nat) : plainD (n + 1) (pn p) = true := rfl
theorem plain_cells {l : List (Nat × Nat)} : plainD 8 (cellsD l) = true := plains_map (fun a => plain_pn a 6) l
theorem f_cells {n : Nat} {x : Sh} {s : S} (g : x.ok) : (KF TB (n + 2)).fnF 3 [x.enc] s = .ok (cellsD x.cells) s := by
  obtain ⟨h1, h4, w1, w4, -⟩ := id g
  have hL : (100 : Nat) < LIM := by decide
  have e0 : ∀ {s : S}, subD s x.enc (.int 0) = some (.str (grow x.w (x.p 0))) := sub_row (r := 0) (by omega)
  refine fnF_new (d := .rg s.cs.length) (new := [⟨false, .lst (x.cells.map pn)⟩]) ?_ (fun bs => frz_new (n := 7) (plains_map (fun a => plain_pn a 6) _) (by decide))
  show runF TB (n + 2) 3 [x.enc] _ = _
  rw [run_of (fd := ⟨1, 4, b_cells⟩) rfl rfl]
  generalize s.cs.length :: s.bs = bs
  generalize s.cs = cs
  have e2 : ∀ {s : S}, callB s .len [x.enc] = some (.int (x.h : Nat)) := len_grid
  simp [b_cells, f_look' g, e2, it_r1 (LIM62 (LIM4 h4))]
  rw [forL_range (E := fun j => [some x.enc, some (.rg cs.length), lv none (fun i => .int (i : Nat)) j, none]) (Sg := fun j => ⟨bs, cs ++ [⟨false, .lst ((x.upto j).map pn)⟩]⟩) ?_ ?_ (fun j hj => ?_)]
  · simp [Sh.cells]
  · rfl
  · rfl
  · have e1 : ∀ {s : S}, subD s x.enc (.int (j : Nat)) = some (.str (grow x.w (x.p j))) := sub_row hj
    simp [loopT_def, e0, len_row (LIM4 w4), it_r1 (LIM62 (LIM4 w4)), LIM4 w4]
    rw [lcFil (q := x.p j) (f := fun c => pn (j, c)) (fun c hc => by
      simp [lcT_some, e1, sub_sign (List.mem_range.mp hc) (LIM4 w4), sg_35, show 2 ≤ LIM by decide]
      cases x.p j c <;> rfl)]
    simp
    rw [m_extend at_0]
    · simp [Sh.upto_succ, Sh.row, Function.comp_def]
    · have := x.upto_len j
      have h5 : j * x.w ≤ 4 * 4 := Nat.mul_le_mul (by omega) w4
      have h6 := x.row_len (r := j)
      unfold Sh.row at h6
      simp only [List.length_map] at h6 ⊢
      omega
    · intro y hy
      obtain ⟨c, _, rfl⟩ := List.mem_map.mp hy
      exact may_plain rfl
theorem f_size {n : Nat} {x : Sh} {s : S} (g : x.ok) : (KF TB (n + 3)).fnF 4 [x.enc] s = .ok (.tup [.int (x.h : Nat), .int (x.w : Nat), .int (x.cells.length : Nat)]) s := by
  refine fnF_plain (new := []) ?_ rfl
  rw [List.append_nil]
  show runF TB (n + 3) 4 [x.enc] _ = _
  rw [run_of (fd := ⟨1, 2, b_size⟩) rfl rfl]
  have e0 : ∀ {s : S}, subD s x.enc (.int 0) = some (.str (grow x.w (x.p 0))) := sub_row (r := 0) (by have := g.h1; omega)
  have e2 : ∀ {s : S}, callB s .len [x.enc] = some (.int (x.h : Nat)) := len_grid
  simp [b_size, f_cells g, e2, e0, len_row (LIM4 g.w4), cellsD, show 3 ≤ LIM by decide]
def Sh.rows (x : Sh) : List Tx := grows x.h x.w x.p
theorem enc_rows {x : Sh} : x.enc = .tup (x.rows.map .str) := rfl
def rowsD (l : List Tx) : D := .tup (l.map .str)
theorem plain_rows (l : List Tx) : plainD 6 (rowsD l) = true := plains_map (fun a => rfl) l
theorem eq_rows (a b : List Tx) : eqD (rowsD a) (rowsD b) = decide (a = b) := by
  unfold rowsD
  rw [eq_tup, eq_map eq_str]
def Sh.look (x : Sh) (t : Nat) : List Tx := (x.turns t).rows
def Sh.tof (x : Sh) : List Nat := looks x.look 4
def natD (n : Nat) : D := .int (n : Nat)
theorem f_turned4 {n : Nat} {x : Sh} {k : Nat} {s : S} (g : x.ok) (hk : k < 4) : (KF TB (n + 2)).fnF 2 [x.enc, .int (k : Nat)] s = .ok (rowsD (x.look k)) s := by
  rw [f_turned g, Nat.mod_eq_of_lt hk]; rfl
theorem f_turns_of {n : Nat} {x : Sh} {s : S} (g : x.ok) : (KF TB (n + 3)).fnF 5 [x.enc] s = .ok (.lst (x.tof.map natD)) s := by
  refine fnF_new (d := .rg s.cs.length) (new := [⟨false, .lst (x.tof.map natD)⟩]) ?_ (fun bs => frz_new (n := 7) (plains_map (fun a => rfl) _) (by decide))
  show runF TB (n + 3) 5 [x.enc] _ = _
  rw [run_of (fd := ⟨1, 4, b_turns_of⟩) rfl rfl]
  generalize s.cs.length :: s.bs = bs
  generalize s.cs = cs
  simp [b_turns_of, f_look' g]
  rw [show (4 : Int) = ((4 : Nat) : Int) from rfl, it_r1 (by decide), onIt_some, forL_range (E := fun j => [some x.enc, some (.rg cs.length), lv none (fun i => .int (i : Nat)) j, none]) (Sg := fun j => ⟨bs, cs ++ [⟨false, .lst ((looks x.look j).map natD)⟩]⟩) ?_ ?_ (fun j hj => ?_)]
  · simp [Sh.tof]
  · rfl
  · rfl
  · have hl := looks_len (f := x.look) j
    simp [loopT_def, f_turned4 g hj]
    have hn : ∀ s : S, cmpD s .nin (rowsD (x.look j)) (.lst ((looks x.look j).map fun t => rowsD (x.look t))) = some (!decide (x.look j ∈ (looks x.look j).map x.look)) := fun s => nin_map plain_rows eq_rows
    rw [lc_lock (n := cs.length) (v := .lst ((looks x.look j).map fun t => rowsD (x.look t))) (fun s => by simp) at_0]
    · by_cases h : x.look j ∈ (looks x.look j).map x.look
      · simp only [decide_eq_true h] at hn
        rw [looks, if_pos h]
        simp [hn]
      · simp only [decide_eq_false h] at hn
        rw [looks, if_neg h]
        simp [hn, app_0 (xs := (looks x.look j).map natD) (y := .int (j : Nat)) (by simp; have := LIM4 (show j + 1 ≤ 4 by omega); omega) rfl]
        rfl
    · simp
      rw [lcMap (f := fun t => rowsD (x.look t)) (fun t ht => by simp [lcT_none, natD, f_turned4 g (show t < 4 by have := looks_lt ht; omega)])]
      simp [show (looks x.look j).length ≤ LIM from LIM4 (by omega)]
theorem f_alike {n : Nat} {x y : Sh} {s : S} (g : x.ok) (g2 : y.ok) : (KF TB (n + 3)).fnF 6 [x.enc, y.enc] s = .ok (.bl (decide (y.rows ∈ (List.range 4).map x.look))) s := by
  refine fnF_plain (new := []) ?_ rfl
  rw [List.append_nil]
  show runF TB (n + 3) 6 [x.enc, y.enc] _ = _
  rw [run_of (fd := ⟨2, 3, b_is_alike⟩) rfl rfl]
  simp [b_is_alike, f_look' g2]
  rw [show (4 : Int) = ((4 : Nat) : Int) from rfl, it_r1 (by decide), onIt_some, lcMap (f := fun t => rowsD (x.look t)) (fun t ht => by simp [lcT_none, f_turned4 g (List.mem_range.mp ht)])]
  have hn : ∀ s : S, cmpD s .inn y.enc (.lst ((List.range 4).map fun t => rowsD (x.look t))) = some (decide (y.rows ∈ (List.range 4).map x.look)) := fun s => in_map (f := rowsD) plain_rows eq_rows
  simp only [List.length_map, List.length_range, decide_eq_true (show 4 ≤ LIM by decide), ifR_t, noX_ok, bind_ok, ifR_f, hn, optR_some, Option.map_some, st_ok, go_rt, ret_rt]
  simp
end Law

set_option Elab.async false
set_option linter.all false
set_option maxRecDepth 100000
set_option maxHeartbeats 1000000
set_option autoImplicit false
/-! P01e: a drawn shape. -/
namespace Law
open M M.Ev
section
variable (ns : List Int) (n m : Nat)
def dH : Nat := 1 + drawN ns n m
def dW : Nat := 1 + drawN ns (n + 1) m
def dRow (W k r : Nat) : List (Nat × Nat) := ((List.range k).filter fun c => decide (1 < drawN ns (n + 4 + r * W + c) 5)).map fun c => (r, c)
def dM0 : Nat × Nat := (drawN ns (n + 2) (dH ns n m), drawN ns (n + 3) (dW ns n m))
def dMk (k : Nat) : List (Nat × Nat) := dM0 ns n m :: (List.range k).flatMap fun r => dRow ns n (dW ns n m) (dW ns n m) r
def marks : List (Nat × Nat) := dMk ns n m (dH ns n m)
def mR0 : Nat := lo ((marks ns n m).map (·.1))
def mR1 : Nat := hi ((marks ns n m).map (·.1))
def mC0 : Nat := lo ((marks ns n m).map (·.2))
def mC1 : Nat := hi ((marks ns n m).map (·.2))
def drawnShape : Sh := ⟨mR1 ns n m + 1 - mR0 ns n m, mC1 ns n m + 1 - mC0 ns n m, fun r c => decide ((mR0 ns n m + r, mC0 ns n m + c) ∈ marks ns n m)⟩
def drawnTown : Nat := n + 4 + dH ns n m * dW ns n m
end
section
variable {ns : List Int} {n m : Nat}
theorem dH_le (hm : 0 < m) : dH ns n m ≤ m := by have := drawN_lt ns n hm; unfold dH; omega
theorem dW_le (hm : 0 < m) : dW ns n m ≤ m := by have := drawN_lt ns (n + 1) hm; unfold dW; omega
theorem dRow_succ {W k r : Nat} : dRow ns n W (k + 1) r = dRow ns n W k r ++ if 1 < drawN ns (n + 4 + r * W + k) 5 then [(r, k)] else [] := by
  unfold dRow
  rw [List.range_succ, List.filter_append, List.map_append]
  congr 1
  by_cases h : 1 < drawN ns (n + 4 + r * W + k) 5 <;> simp [h]
theorem dMk_succ {k : Nat} : dMk ns n m (k + 1) = dMk ns n m k ++ dRow ns n (dW ns n m) (dW ns n m) k := by
  unfold dMk
  rw [List.range_succ, List.flatMap_append, List.flatMap_singleton, List.cons_append]
theorem marks_in (hm : 0 < m) : ∀ p ∈ marks ns n m, p.1 < dH ns n m ∧ p.2 < dW ns n m := by
  intro p hp
  rcases List.mem_cons.mp hp with rfl | hp
  · exact ⟨drawN_lt _ _ (by unfold dH; omega), drawN_lt _ _ (by unfold dW; omega)⟩
  · obtain ⟨r, hr, h⟩ := List.mem_flatMap.mp hp
    obtain ⟨c, hc, rfl⟩ := List.mem_map.mp h
    exact ⟨List.mem_range.mp hr, List.mem_range.mp (List.mem_filter.mp hc).1⟩
theorem dRow_len {W k r : Nat} : (dRow ns n W k r).length ≤ k := by
  unfold dRow
  rw [List.length_map]
  exact Nat.le_trans (List.length_filter_le _ _) (by simp)
theorem dMk_len {k : Nat} : (dMk ns n m k).length ≤ 1 + k * dW ns n m := by
  induction k with
  | zero => simp [dMk]
  | succ k ih =>
    rw [dMk_succ, List.length_append, Nat.succ_mul]
    have := dRow_len (ns := ns) (n := n) (W := dW ns n m) (k := dW ns n m) (r := k)
    omega
theorem marks_ne : marks ns n m ≠ [] := by unfold marks dMk; simp
theorem ne1 : (marks ns n m).map (·.1) ≠ [] := by simp [marks_ne]
theorem ne2 : (marks ns n m).map (·.2) ≠ [] := by simp [marks_ne]
theorem mR0_le : ∀ p ∈ marks ns n m, mR0 ns n m ≤ p.1 := fun p hp => (lo_spec ne1).2 _ (List.mem_map.mpr ⟨p, hp, rfl⟩)
theorem mR1_ge : ∀ p ∈ marks ns n m, p.1 ≤ mR1 ns n m := fun p hp => hi_le _ (List.mem_map.mpr ⟨p, hp, rfl⟩)
theorem mC0_le : ∀ p ∈ marks ns n m, mC0 ns n m ≤ p.2 := fun p hp => (lo_spec ne2).2 _ (List.mem_map.mpr ⟨p, hp, rfl⟩)
theorem mC1_ge : ∀ p ∈ marks ns n m, p.2 ≤ mC1 ns n m := fun p hp => hi_le _ (List.mem_map.mpr ⟨p, hp, rfl⟩)
theorem mR0_mem : ∃ p ∈ marks ns n m, p.1 = mR0 ns n m := List.mem_map.mp (lo_spec ne1).1
theorem mR1_mem : ∃ p ∈ marks ns n m, p.1 = mR1 ns n m := List.mem_map.mp (hi_mem ne1)
theorem mC0_mem : ∃ p ∈ marks ns n m, p.2 = mC0 ns n m := List.mem_map.mp (lo_spec ne2).1
theorem mC1_mem : ∃ p ∈ marks ns n m, p.2 = mC1 ns n m := List.mem_map.mp (hi_mem ne2)
theorem drawnShape_ok (hm : 0 < m) (h4 : m ≤ 4) : (drawnShape ns n m).ok := by
  have a1 := dH_le (ns := ns) (n := n) hm
  have a2 := dW_le (ns := ns) (n := n) hm
  have key : ∀ p ∈ marks ns n m, mR0 ns n m ≤ p.1 ∧ p.1 ≤ mR1 ns n m ∧ mC0 ns n m ≤ p.2 ∧ p.2 ≤ mC1 ns n m := fun p hp => ⟨mR0_le p hp, mR1_ge p hp, mC0_le p hp, mC1_ge p hp⟩
  have b1 : mR1 ns n m < dH ns n m := by obtain ⟨p, hp, e⟩ := mR1_mem (ns := ns) (n := n) (m := m); rw [← e]; exact (marks_in hm p hp).1
  have b2 : mC1 ns n m < dW ns n m := by obtain ⟨p, hp, e⟩ := mC1_mem (ns := ns) (n := n) (m := m); rw [← e]; exact (marks_in hm p hp).2
  have b3 : mR0 ns n m ≤ mR1 ns n m := by obtain ⟨p, hp, e⟩ := mR1_mem (ns := ns) (n := n) (m := m); rw [← e]; exact mR0_le p hp
  have b4 : mC0 ns n m ≤ mC1 ns n m := by obtain ⟨p, hp, e⟩ := mC1_mem (ns := ns) (n := n) (m := m); rw [← e]; exact mC0_le p hp
  refine ⟨?_, ?_, ?_, ?_, ?_, ?_, ?_, ?_⟩
  · show 1 ≤ mR1 ns n m + 1 - mR0 ns n m; omega
  · show mR1 ns n m + 1 - mR0 ns n m ≤ 4; omega
  · show 1 ≤ mC1 ns n m + 1 - mC0 ns n m; omega
  · show mC1 ns n m + 1 - mC0 ns n m ≤ 4; omega
  · obtain ⟨p, hp, e⟩ := mR0_mem (ns := ns) (n := n) (m := m)
    obtain ⟨k1, k2, k3, k4⟩ := key p hp
    refine ⟨p.2 - mC0 ns n m, show p.2 - mC0 ns n m < mC1 ns n m + 1 - mC0 ns n m by omega, decide_eq_true ?_⟩
    show (mR0 ns n m + 0, mC0 ns n m + (p.2 - mC0 ns n m)) ∈ _
    rw [show (mR0 ns n m + 0, mC0 ns n m + (p.2 - mC0 ns n m)) = p from Prod.ext (by simp; omega) (by simp; omega)]; exact hp
  · obtain ⟨p, hp, e⟩ := mR1_mem (ns := ns) (n := n) (m := m)
    obtain ⟨k1, k2, k3, k4⟩ := key p hp
    refine ⟨p.2 - mC0 ns n m, show p.2 - mC0 ns n m < mC1 ns n m + 1 - mC0 ns n m by omega, decide_eq_true ?_⟩
    show (mR0 ns n m + (mR1 ns n m + 1 - mR0 ns n m - 1), mC0 ns n m + (p.2 - mC0 ns n m)) ∈ _
    rw [show (mR0 ns n m + (mR1 ns n m + 1 - mR0 ns n m - 1), mC0 ns n m + (p.2 - mC0 ns n m)) = p from Prod.ext (by simp; omega) (by simp; omega)]; exact hp
  · obtain ⟨p, hp, e⟩ := mC0_mem (ns := ns) (n := n) (m := m)
    obtain ⟨k1, k2, k3, k4⟩ := key p hp
    refine ⟨p.1 - mR0 ns n m, show p.1 - mR0 ns n m < mR1 ns n m + 1 - mR0 ns n m by omega, decide_eq_true ?_⟩
    show (mR0 ns n m + (p.1 - mR0 ns n m), mC0 ns n m + 0) ∈ _
    rw [show (mR0 ns n m + (p.1 - mR0 ns n m), mC0 ns n m + 0) = p from Prod.ext (by simp; omega) (by simp; omega)]; exact hp
  · obtain ⟨p, hp, e⟩ := mC1_mem (ns := ns) (n := n) (m := m)
    obtain ⟨k1, k2, k3, k4⟩ := key p hp
    refine ⟨p.1 - mR0 ns n m, show p.1 - mR0 ns n m < mR1 ns n m + 1 - mR0 ns n m by omega, decide_eq_true ?_⟩
    show (mR0 ns n m + (p.1 - mR0 ns n m), mC0 ns n m + (mC1 ns n m + 1 - mC0 ns n m - 1)) ∈ _
    rw [show (mR0 ns n m + (p.1 - mR0 ns n m), mC0 ns n m + (mC1 ns n m + 1 - mC0 ns n m - 1)) = p from Prod.ext (by simp; omega) (by simp; omega)]; exact hp
theorem town_le (hm : 0 < m) (h4 : m ≤ 4) : drawnTown ns n m ≤ n + 20 := by
  have a1 := dH_le (ns := ns) (n := n) hm
  have a2 := dW_le (ns := ns) (n := n) hm
  have : dH ns n m * dW ns n m ≤ 4 * 4 := Nat.mul_le_mul (by omega) (by omega)
  unfold drawnTown; omega
end
/-- the first half: the marks -/
def e_marks (ns : List Int) (n m : Nat) (rest : List CS) : M.Env := [some (.scr ns), some (.rg 0), some (.int (m : Nat)), some (.int (dH ns n m : Nat)), some (.int (dW ns n m : Nat)), some (.rg (rest.length + 1)),
  some (.int (dH ns n m - 1 : Nat)), some (.int (dW ns n m - 1 : Nat)), none, none, none, none, none]
theorem r_shape {f n m : Nat} {ns : List Int} {bs : List Nat} {rest : List CS} (hn : n + 20 < LIM) (hm : 0 < m) (h4 : m ≤ 4) : (KF TB (f + 4)).fnF 12 [.scr ns, .rg 0, .int (m : Nat)] ⟨bs, tw n :: rest⟩ = .ok (drawnShape ns n m).enc ⟨bs, tw (drawnTown ns n m) :: rest⟩ := by
  have a1 := dH_le (ns := ns) (n := n) hm
  have a2 := dW_le (ns := ns) (n := n) hm
  have hW : 0 < dW ns n m := by unfold dW; omega
  have hH : 0 < dH ns n m := by unfold dH; omega
  have hHW : dH ns n m * dW ns n m ≤ 4 * 4 := Nat.mul_le_mul (by omega) (by omega)
  have hL : 2 ^ 20 < LIM := by decide
  refine k_town (new := [⟨false, .lst ((marks ns n m).map pn)⟩, ⟨false, .lst ((drawnShape ns n m).rows.map .str)⟩]) (fun bs => ?_) plain_enc
  rw [run_of (fd := ⟨3, 13, b__law_shape⟩) rfl rfl]
  have dd : ∀ (N q : Nat) (rest : List CS), N < LIM → 0 < q → (KF TB (f + 3)).fnF 9 [.scr ns, .rg 0, .int (q : Nat)] ⟨bs, tw N :: rest⟩ = .ok (.int (drawN ns N q : Nat)) ⟨bs, tw (N + 1) :: rest⟩ := fun N q rest hk hq => f_drawN (by omega) hq
  have d0 := dd n m rest (by omega) hm
  have d1 := dd (n + 1) m rest (by omega) hm
  have d2 := dd (n + 2) (dH ns n m) rest (by omega) hH
  have d3 := dd (n + 3) (dW ns n m) rest (by omega) hW
  have c1 : (1 : Int) + (drawN ns n m : Nat) = (dH ns n m : Nat) := by unfold dH; simp
  have c2 : (1 : Int) + (drawN ns (n + 1) m : Nat) = (dW ns n m : Nat) := by unfold dW; simp
  simp [b__law_shape, d0, c1, d1, c2, d2, d3, show 2 ≤ LIM by omega, show 1 ≤ LIM by omega, it_r1 (show dH ns n m < 2 ^ 62 by omega)]
  rw [forL_range (E := fun j => [some (.scr ns), some (.rg 0), some (.int (m : Nat)), some (.int (dH ns n m : Nat)), some (.int (dW ns n m : Nat)), some (.rg (rest.length + 1)), lv none (fun i => .int (i : Nat)) j, lv none (fun _ => .int (dW ns n m - 1 : Nat)) j, none, none, none, none, none])
    (Sg := fun j => ⟨bs, tw (n + 4 + j * dW ns n m) :: (rest ++ [⟨false, .lst ((dMk ns n m j).map pn)⟩])⟩) ?_ ?_ (fun j hj => ?_)]
  rotate_left
  · rfl
  · simp [dMk, dM0, pn]
  · have hj2 : (j + 1) * dW ns n m ≤ 4 * 4 := Nat.le_trans (Nat.mul_le_mul (show j + 1 ≤ dH ns n m by omega) (Nat.le_refl _)) hHW
    rw [Nat.succ_mul] at hj2
    simp [loopT_def, it_r1 (show dW ns n m < 2 ^ 62 by omega)]
    rw [forL_range (E := fun i => [some (.scr ns), some (.rg 0), some (.int (m : Nat)), some (.int (dH ns n m : Nat)), some (.int (dW ns n m : Nat)), some (.rg (rest.length + 1)), some (.int (j : Nat)), lv (lv none (fun _ => .int (dW ns n m - 1 : Nat)) j) (fun i => .int (i : Nat)) i, none, none, none, none, none])
      (Sg := fun i => ⟨bs, tw (n + 4 + j * dW ns n m + i) :: (rest ++ [⟨false, .lst ((dMk ns n m j ++ dRow ns n (dW ns n m) i j).map pn)⟩])⟩) ?_ ?_ (fun i hi => ?_)]
    · rw [lv_pos hW, dMk_succ, Nat.succ_mul]
      simp [Nat.add_assoc]
    · rfl
    · simp [dRow]
    · have hl : (List.map pn (dMk ns n m j ++ dRow ns n (dW ns n m) i j)).length < LIM := by
        rw [List.length_map, List.length_append]
        have := dMk_len (ns := ns) (n := n) (m := m) (k := j)
        have := dRow_len (ns := ns) (n := n) (W := dW ns n m) (k := i) (r := j)
        omega
      generalize hX : List.map pn (dMk ns n m j ++ dRow ns n (dW ns n m) i j) = X at *
      rw [dRow_succ, show n + 4 + j * dW ns n m + (i + 1) = n + 4 + j * dW ns n m + i + 1 by omega]
      have hNL : n + 4 + j * dW ns n m + i < LIM := by omega
      generalize n + 4 + j * dW ns n m + i = N at *
      have d5 : (KF TB (f + 3)).fnF 9 [.scr ns, .rg 0, .int 5] ⟨bs, tw N :: (rest ++ [⟨false, .lst X⟩])⟩ = .ok (.int (drawN ns N 5 : Nat)) ⟨bs, tw (N + 1) :: (rest ++ [⟨false, .lst X⟩])⟩ := dd N 5 _ hNL (by decide)
      have happ : callM ⟨bs, tw (N + 1) :: (rest ++ [⟨false, .lst X⟩])⟩ .append (.rg (rest.length + 1)) [.tup [.int (j : Nat), .int (i : Nat)]] = .ok .non ⟨bs, tw (N + 1) :: (rest ++ [⟨false, .lst (X ++ [.tup [.int (j : Nat), .int (i : Nat)]])⟩])⟩ := app_1 hl rfl
      by_cases h : 1 < drawN ns N 5
      · have h' : (1 : Int) < (drawN ns N 5 : Nat) := by omega
        rw [if_pos h, ← List.append_assoc, List.map_append, hX]
        simp [loopT_def, d5, h', show 2 ≤ LIM by omega, happ, pn]
      · have h' : ¬ (1 : Int) < (drawN ns N 5 : Nat) := by omega
        rw [if_neg h, List.append_nil, hX]
        simp [loopT_def, d5, h']
  have hml : (marks ns n m).length ≤ 20 := by
    have := dMk_len (ns := ns) (n := n) (m := m) (k := dH ns n m)
    show (dMk ns n m (dH ns n m)).length ≤ 20
    omega
  rw [lv_pos hH, lv_pos hH, show dMk ns n m (dH ns n m) = marks ns n m from rfl, show n + 4 + dH ns n m * dW ns n m = drawnTown ns n m from rfl]
  simp only [go_nx, x_ss_cons, x_set]
  rw [lc_lock (n := rest.length + 1) (v := .lst ((marks ns n m).map fun p => .int (p.1 : Nat))) (fun s => by simp) at_1]
  rotate_left
  · simp
    rw [lcMap (f := fun p => .int (p.1 : Nat)) (fun p hp => by simp [lcT_none, pn])]
    simp [show (marks ns n m).length ≤ LIM by omega]
  simp
  clear dd d0 d1 d2 d3 c1 c2
  rw [lc_lock (n := rest.length + 1) (v := .lst ((marks ns n m).map fun p => .int (p.2 : Nat))) (fun s => by simp) at_1]
  rotate_left
  · simp
    rw [lcMap (f := fun p => .int (p.2 : Nat)) (fun p hp => by simp [lcT_none, pn])]
    simp [show (marks ns n m).length ≤ LIM by omega]
  have mm1 : ∀ s : S, callB s .min1 [.lst ((marks ns n m).map fun p => .int (p.1 : Nat))] = some (.int (mR0 ns n m : Nat)) := fun s => by
    obtain ⟨p, hp, e⟩ := mR0_mem (ns := ns) (n := n) (m := m)
    exact min1_map ⟨p, hp, by rw [e]⟩ fun q hq => by have := mR0_le q hq; omega
  have mm2 : ∀ s : S, callB s .max1 [.lst ((marks ns n m).map fun p => .int (p.1 : Nat))] = some (.int (mR1 ns n m : Nat)) := fun s => by
    obtain ⟨p, hp, e⟩ := mR1_mem (ns := ns) (n := n) (m := m)
    exact max1_map ⟨p, hp, by rw [e]⟩ fun q hq => by have := mR1_ge q hq; omega
  have mm3 : ∀ s : S, callB s .min1 [.lst ((marks ns n m).map fun p => .int (p.2 : Nat))] = some (.int (mC0 ns n m : Nat)) := fun s => by
    obtain ⟨p, hp, e⟩ := mC0_mem (ns := ns) (n := n) (m := m)
    exact min1_map ⟨p, hp, by rw [e]⟩ fun q hq => by have := mC0_le q hq; omega
  have mm4 : ∀ s : S, callB s .max1 [.lst ((marks ns n m).map fun p => .int (p.2 : Nat))] = some (.int (mC1 ns n m : Nat)) := fun s => by
    obtain ⟨p, hp, e⟩ := mC1_mem (ns := ns) (n := n) (m := m)
    exact max1_map ⟨p, hp, by rw [e]⟩ fun q hq => by have := mC1_ge q hq; omega
  have b1 : mR1 ns n m < dH ns n m := by obtain ⟨p, hp, e⟩ := mR1_mem (ns := ns) (n := n) (m := m); rw [← e]; exact (marks_in hm p hp).1
  have b2 : mC1 ns n m < dW ns n m := by obtain ⟨p, hp, e⟩ := mC1_mem (ns := ns) (n := n) (m := m); rw [← e]; exact (marks_in hm p hp).2
  have b3 : mR0 ns n m ≤ mR1 ns n m := by obtain ⟨p, hp, e⟩ := mR1_mem (ns := ns) (n := n) (m := m); rw [← e]; exact mR0_le p hp
  have b4 : mC0 ns n m ≤ mC1 ns n m := by obtain ⟨p, hp, e⟩ := mC1_mem (ns := ns) (n := n) (m := m); rw [← e]; exact mC0_le p hp
  have j1 : ∀ s : S, items s .rng2 [.int (mR0 ns n m : Nat), .int ((mR1 ns n m : Nat) + 1)] = some ((List.range (drawnShape ns n m).h).map fun i => D.int ((mR0 ns n m + i : Nat) : Nat), none) := fun s => by
    rw [show ((mR1 ns n m : Nat) : Int) + 1 = ((mR1 ns n m + 1 : Nat) : Int) by omega, it_r2 (by omega) (by omega)]; rfl
  have j2 : ∀ s : S, items s .rng2 [.int (mC0 ns n m : Nat), .int ((mC1 ns n m : Nat) + 1)] = some ((List.range (drawnShape ns n m).w).map fun i => D.int ((mC0 ns n m + i : Nat) : Nat), none) := fun s => by
    rw [show ((mC1 ns n m : Nat) : Int) + 1 = ((mC1 ns n m + 1 : Nat) : Int) by omega, it_r2 (by omega) (by omega)]; rfl
  simp [mm1, mm2, j1]
  have hsh : (drawnShape ns n m).h ≤ 4 := (drawnShape_ok hm h4).h4
  have hsw : (drawnShape ns n m).w ≤ 4 := (drawnShape_ok hm h4).w4
  have hin : ∀ (c : Cell) (r i : Nat), cmpD ⟨bs, tw (drawnTown ns n m) :: (rest ++ [⟨false, .lst ((marks ns n m).map pn)⟩, ⟨false, c⟩])⟩ .inn (.tup [.int ((mR0 ns n m : Int) + r), .int ((mC0 ns n m : Int) + i)]) (.rg (rest.length + 1)) = some ((drawnShape ns n m).p r i) := fun c r i => by
    have := in_rg (f := pn) (s := ⟨bs, tw (drawnTown ns n m) :: (rest ++ [⟨false, .lst ((marks ns n m).map pn)⟩, ⟨false, c⟩])⟩) (a := (mR0 ns n m + r, mC0 ns n m + i)) (fun a => plain_pn a 5) eq_pn (at_10 (cs := rest) (t := tw (drawnTown ns n m)))
    exact this
  rw [forL_at (E := fun j => [some (.scr ns), some (.rg 0), some (.int (m : Nat)), some (.int (dH ns n m : Nat)), some (.int (dW ns n m : Nat)), some (.rg (rest.length + 1)), lv (some (.int (dH ns n m - 1 : Nat))) (fun i => .int ((mR0 ns n m : Int) + (i : Nat))) j, some (.int (dW ns n m - 1 : Nat)), some (.lst ((marks ns n m).map fun p => .int (p.1 : Nat))), some (.lst ((marks ns n m).map fun p => .int (p.2 : Nat))), some (.rg (rest.length + 1 + 1)),
      lv none (fun j => .lst ((List.range (drawnShape ns n m).w).map fun i => .str (46 :: if (drawnShape ns n m).p j i then [35] else []))) j, none])
    (Sg := fun j => ⟨bs, tw (drawnTown ns n m) :: (rest ++ [⟨false, .lst ((marks ns n m).map pn)⟩, ⟨false, .lst ((List.range j).map fun r => .str (grow (drawnShape ns n m).w ((drawnShape ns n m).p r)))⟩])⟩) ?_ ?_ (fun j hj => ?_)]
  rotate_left
  · rfl
  · rfl
  · simp at hj
    simp [loopT_def, mm3, mm4, j2, LIM4 hsw]
    rw [lcMap (f := fun i => .str (46 :: if (drawnShape ns n m).p j i then [35] else [])) (fun i hi => by
      simp [lcT_none, hin, show 2 ≤ LIM by omega]
      cases (drawnShape ns n m).p j i <;> simp [b_add_s, show 1 ≤ LIM by omega, show 2 ≤ LIM by omega])]
    simp [LIM4 hsw]
    rw [lcMap (f := fun i => .str [sg ((drawnShape ns n m).p j i)]) (fun i hi => by
      cases h : (drawnShape ns n m).p j i <;> simp [lcT_none, h] <;> rfl)]
    simp
    rw [join_signs (by simpa using LIM4 hsw)]
    simp
    rw [app_11 (by simp; omega) rfl]
    simp [List.range_succ]
    rfl
  · simp [List.length_range, marks, drawnShape, Sh.rows, grows, Function.comp_def, enc_rows, grow]
end Law

set_option Elab.async false
set_option linter.all false
set_option maxRecDepth 100000
set_option maxHeartbeats 1000000
set_option autoImplicit false
/-! P01f: the law's own cells. -/
namespace Law
open M M.Ev
def toI (p : Nat × Nat) : Int × Int := ((p.1 : Int), (p.2 : Int))
theorem toI_inj {p q : Nat × Nat} (h : toI p = toI q) : p = q := by
  unfold toI at h
  rw [Prod.ext_iff] at h ⊢
  simp only [Int.natCast_inj] at h
  exact h
theorem mem_upto {x : Sh} {k : Nat} {p : Nat × Nat} : p ∈ x.upto k ↔ p.1 < k ∧ p.2 < x.w ∧ x.p p.1 p.2 = true := by
  unfold Sh.upto Sh.row
  simp only [List.mem_flatMap, List.mem_map, List.mem_filter, List.mem_range]
  constructor
  · rintro ⟨r, hr, c, ⟨hc, hp⟩, rfl⟩
    exact ⟨hr, hc, hp⟩
  · rintro ⟨h1, h2, h3⟩
    exact ⟨p.1, h1, p.2, ⟨h2, h3⟩, rfl⟩
theorem mem_cells {x : Sh} {p : Nat × Nat} : p ∈ x.cells ↔ p.1 < x.h ∧ p.2 < x.w ∧ x.p p.1 p.2 = true := mem_upto
theorem row_rise {x : Sh} {r : Nat} : (x.row r).Pairwise fun a b => ltp (toI a) (toI b) = true := by
  unfold Sh.row
  rw [List.pairwise_map]
  refine (List.pairwise_lt_range.filter _).imp fun {a b} h => ?_
  unfold ltp toI
  simp
  omega
theorem upto_rise {x : Sh} (k : Nat) : (x.upto k).Pairwise fun a b => ltp (toI a) (toI b) = true := by
  induction k with
  | zero => exact .nil
  | succ k ih =>
    rw [Sh.upto_succ, List.pairwise_append]
    refine ⟨ih, row_rise, fun a ha b hb => ?_⟩
    have h1 := (mem_upto.mp ha).1
    obtain ⟨c, _, rfl⟩ := List.mem_map.mp hb
    unfold ltp toI
    simp
    omega
theorem cells_rise {x : Sh} : x.cells.Pairwise fun a b => ltp (toI a) (toI b) = true := upto_rise _
theorem cells_nodup {x : Sh} : x.cells.Nodup := cells_rise.imp fun {a b} h e => by
  subst e
  rw [ltp_irr] at h
  cases h
theorem nodup_map {α β : Type} {f : α → β} {l : List α} (h : l.Nodup) (hf : ∀ a ∈ l, ∀ b ∈ l, f a = f b → a = b) : (l.map f).Nodup := by
  unfold List.Nodup
  rw [List.pairwise_map]
  exact List.Pairwise.imp_of_mem (fun {a b} ha hb hne e => hne (hf a ha b hb e)) h
theorem turn_perm {y : Sh} : (y.cells.map fun p => (p.2, y.h - 1 - p.1)).Perm y.turn.cells := by
  refine (List.perm_ext_iff_of_nodup (nodup_map cells_nodup ?_) cells_nodup).mpr fun p => ?_
  · intro a ha b hb e
    have h1 := (mem_cells.mp ha).1
    have h2 := (mem_cells.mp hb).1
    rw [Prod.ext_iff] at e ⊢
    simp only at e
    omega
  · rw [mem_cells, List.mem_map]
    show (∃ a, a ∈ y.cells ∧ (a.2, y.h - 1 - a.1) = p) ↔ p.1 < y.w ∧ p.2 < y.h ∧ y.p (y.h - 1 - p.2) p.1 = true
    constructor
    · rintro ⟨a, ha, rfl⟩
      obtain ⟨h1, h2, h3⟩ := mem_cells.mp ha
      refine ⟨h2, by omega, ?_⟩
      rw [show y.h - 1 - (y.h - 1 - a.1) = a.1 by omega]
      exact h3
    · rintro ⟨h1, h2, h3⟩
      refine ⟨(y.h - 1 - p.2, p.1), mem_cells.mpr ⟨by simp; omega, h1, h3⟩, ?_⟩
      rw [Prod.ext_iff]
      simp
      omega
def rot (p : Int × Int) : Int × Int := (p.2, 0 - p.1)
def rots (x : Sh) : Nat → List (Int × Int)
  | 0 => x.cells.map toI
  | k + 1 => (rots x k).map rot
def shiftI (a b : Int) (p : Nat × Nat) : Int × Int := ((p.1 : Int) + a, (p.2 : Int) + b)
theorem rots_perm {x : Sh} (k : Nat) : ∃ a b : Int, (rots x k).Perm ((x.turns k).cells.map (shiftI a b)) := by
  induction k with
  | zero =>
    refine ⟨0, 0, ?_⟩
    show (x.cells.map toI).Perm (x.cells.map (shiftI 0 0))
    rw [show toI = shiftI 0 0 from funext fun p => by unfold toI shiftI; simp]
  | succ k ih =>
    obtain ⟨a, b, h⟩ := ih
    refine ⟨b, 1 - (x.turns k).h - a, (h.map rot).trans ?_⟩
    rw [List.map_map]
    have h2 := (turn_perm (y := x.turns k)).map (shiftI b (1 - (x.turns k).h - a))
    refine List.Perm.trans ?_ h2
    rw [List.map_map]
    refine List.Perm.of_eq (List.map_congr_left fun p hp => ?_)
    have h1 := (mem_cells.mp hp).1
    unfold rot shiftI
    simp
    omega
theorem rots_len {x : Sh} (g : x.ok) (k : Nat) : (rots x k).length ≤ 16 := by
  induction k with
  | zero => show (x.cells.map toI).length ≤ 16; rw [List.length_map]; exact Sh.cells_len g
  | succ k ih => show ((rots x k).map rot).length ≤ 16; rw [List.length_map]; exact ih
/-- what comes of the turned, moved, sorted cells -/
theorem rots_sorted {x : Sh} (g : x.ok) (k : Nat) : ∃ a b : Int, (∃ p ∈ rots x k, p.1 = a) ∧ (∀ p ∈ rots x k, a ≤ p.1) ∧ (∃ p ∈ rots x k, p.2 = b) ∧ (∀ p ∈ rots x k, b ≤ p.2) ∧
    ((rots x k).map fun p => (p.1 - a, p.2 - b)).mergeSort (fun a b => !ltp b a) = (x.turns k).cells.map toI := by
  obtain ⟨a, b, h⟩ := rots_perm (x := x) k
  have gk := g.turns k
  have hm : ∀ p ∈ rots x k, ∃ q ∈ (x.turns k).cells, shiftI a b q = p := fun p hp => List.mem_map.mp (h.mem_iff.mp hp)
  have hm2 : ∀ q ∈ (x.turns k).cells, shiftI a b q ∈ rots x k := fun q hq => h.mem_iff.mpr (List.mem_map.mpr ⟨q, hq, rfl⟩)
  refine ⟨a, b, ?_, ?_, ?_, ?_, ?_⟩
  · obtain ⟨c, hc, hp⟩ := gk.top
    exact ⟨_, hm2 (0, c) (mem_cells.mpr ⟨gk.h1, hc, hp⟩), by simp [shiftI]⟩
  · intro p hp
    obtain ⟨q, _, rfl⟩ := hm p hp
    unfold shiftI; simp; omega
  · obtain ⟨c, hc, hp⟩ := gk.lft
    exact ⟨_, hm2 (c, 0) (mem_cells.mpr ⟨hc, gk.w1, hp⟩), by simp [shiftI]⟩
  · intro p hp
    obtain ⟨q, _, rfl⟩ := hm p hp
    unfold shiftI; simp; omega
  · refine sort_to ?_ ?_
    · have := h.map fun p => (p.1 - a, p.2 - b)
      refine this.trans (List.Perm.of_eq ?_)
      rw [List.map_map]
      refine List.map_congr_left fun p _ => ?_
      unfold shiftI toI
      simp
    · rw [List.pairwise_map]
      exact cells_rise
theorem cellsD_toI {l : List (Nat × Nat)} : cellsD l = .lst ((l.map toI).map pi) := by
  unfold cellsD
  rw [List.map_map]
  rfl
theorem f_lcells {n : Nat} {x : Sh} {t : Nat} {s : S} (g : x.ok) : (KF TB (n + 1)).fnF 13 [x.enc, .int (t : Nat)] s = .ok (cellsD (x.turns (t % 4)).cells) s := by
  obtain ⟨h1, h4, w1, w4, -⟩ := id g
  have hL : (100 : Nat) < LIM := by decide
  refine k_plain (new := []) ?_ plain_cells
  rw [List.append_nil, run_of (fd := ⟨2, 8, b__law_cells⟩) rfl rfl]
  generalize s.cs.length :: s.bs = bs
  have e0 : ∀ {s : S}, subD s x.enc (.int 0) = some (.str (grow x.w (x.p 0))) := sub_row (r := 0) (by omega)
  have e2 : ∀ {s : S}, callB s .len [x.enc] = some (.int (x.h : Nat)) := len_grid
  simp [b__law_cells, e2, it_r1 (LIM62 (LIM4 h4))]
  rw [forL_range (E := fun j => [some x.enc, some (.int (t : Nat)), some (.lst ((x.upto j).map pn)), lv none (fun i => .int (i : Nat)) j, none, none, none, none]) (Sg := fun _ => ⟨bs, s.cs⟩) ?_ ?_ (fun j hj => ?_)]
  rotate_left
  · rfl
  · rfl
  · have e1 : ∀ {s : S}, subD s x.enc (.int (j : Nat)) = some (.str (grow x.w (x.p j))) := sub_row hj
    simp [loopT_def, e0, len_row (LIM4 w4), it_r1 (LIM62 (LIM4 w4)), LIM4 w4]
    rw [lcFil (q := x.p j) (f := fun c => pn (j, c)) (fun c hc => by
      simp [lcT_some, e1, sub_sign (List.mem_range.mp hc) (LIM4 w4), sg_35, show 2 ≤ LIM by decide]
      cases x.p j c <;> rfl)]
    simp
    rw [b_add_l]
    · simp [Sh.upto_succ, Sh.row, Function.comp_def]
    · have := x.upto_len j
      have h5 : j * x.w ≤ 4 * 4 := Nat.mul_le_mul (by omega) w4
      have h6 := x.row_len (r := j)
      unfold Sh.row at h6
      simp only [List.length_map] at h6 ⊢
      omega
  rw [show (x.upto x.h).map pn = (rots x 0).map pi from by show x.cells.map pn = (x.cells.map toI).map pi; rw [List.map_map]; rfl, lv_pos (by omega)]
  simp
  rw [show ((t : Int) % 4) = ((t % 4 : Nat) : Int) by omega, it_r1 (by omega), onIt_some]
  rw [forL_range (E := fun j => [some x.enc, some (.int (t : Nat)), some (.lst ((rots x j).map pi)), some (.int (x.h - 1 : Nat)), none, lv none (fun i => .int (i : Nat)) j, none, none]) (Sg := fun _ => ⟨bs, s.cs⟩) ?_ ?_ (fun j hj => ?_)]
  rotate_left
  · rfl
  · rfl
  · have := rots_len g j
    simp [loopT_def, show (rots x j).length ≤ LIM by omega]
    rw [lcMap (f := fun p => pi (rot p)) (fun p hp => by simp [lcT_none, pi, rot, show 2 ≤ LIM by omega])]
    simp [rots, Function.comp_def]
  obtain ⟨a, b, m1, m2, m3, m4, hs⟩ := rots_sorted g (t % 4)
  have hl := rots_len g (t % 4)
  generalize rots x (t % 4) = L at *
  have q1 : ∀ s : S, callB s .min1 [.lst (L.map fun p => .int p.1)] = some (.int a) := fun s => min1_map m1 m2
  have q2 : ∀ s : S, callB s .min1 [.lst (L.map fun p => .int p.2)] = some (.int b) := fun s => min1_map m3 m4
  simp [show L.length ≤ LIM by omega]
  rw [lcMap (f := fun p => .int p.1) (fun p hp => by simp [lcT_none, pi])]
  simp [q1, show L.length ≤ LIM by omega]
  rw [lcMap (f := fun p => .int p.2) (fun p hp => by simp [lcT_none, pi])]
  simp [q2, show L.length ≤ LIM by omega]
  rw [lcMap (f := fun p => pi (p.1 - a, p.2 - b)) (fun p hp => by simp [lcT_none, pi, show 2 ≤ LIM by omega])]
  have q3 : ∀ s : S, callB s .sorted [.lst (L.map fun p => pi (p.1 - a, p.2 - b))] = some (cellsD (x.turns (t % 4)).cells) := fun s => by
    have e : (L.map fun p => pi (p.1 - a, p.2 - b)) = (L.map fun p => (p.1 - a, p.2 - b)).map pi := by rw [List.map_map]; rfl
    show (if canSort (L.map fun p => pi (p.1 - a, p.2 - b)) && decide ((L.map fun p => pi (p.1 - a, p.2 - b)).length ≤ LIM) then some (D.lst (sortD (L.map fun p => pi (p.1 - a, p.2 - b)))) else none) = _
    rw [e, canSort_pi, sort_pi, hs, cellsD_toI]
    rw [List.length_map, List.length_map, decide_eq_true (show L.length ≤ LIM by omega)]
    rfl
  simp [q3]
theorem cells_wide {x : Sh} (g : x.ok) : (∃ p ∈ x.cells, p.1 = x.h - 1) ∧ (∃ p ∈ x.cells, p.2 = x.w - 1) := by
  obtain ⟨c, hc, hp⟩ := g.bot
  obtain ⟨r, hr, hq⟩ := g.rgt
  have := g.h1
  have := g.w1
  exact ⟨⟨(x.h - 1, c), mem_cells.mpr ⟨by simp; omega, hc, hp⟩, rfl⟩, ⟨(r, x.w - 1), mem_cells.mpr ⟨hr, by simp; omega, hq⟩, rfl⟩⟩
theorem f_drawn {n : Nat} {x : Sh} {s : S} (g : x.ok) : (KF TB (n + 1)).fnF 14 [cellsD x.cells] s = .ok x.enc s := by
  obtain ⟨h1, h4, w1, w4, -⟩ := id g
  have hL : (100 : Nat) < LIM := by decide
  refine k_plain (d := x.enc) (new := [⟨false, .lst ((List.range x.h).map fun r => .str (grow x.w (x.p r)))⟩]) ?_ plain_enc
  rw [run_of (fd := ⟨1, 6, b__law_drawn⟩) rfl rfl]
  generalize s.cs.length :: s.bs = bs
  generalize s.cs = cs
  have hl := Sh.cells_len g
  obtain ⟨⟨p1, hp1, e1⟩, ⟨p2, hp2, e2⟩⟩ := cells_wide g
  have q1 : ∀ s : S, callB s .max1 [.lst (x.cells.map fun p => .int (p.1 : Nat))] = some (.int (x.h - 1 : Nat)) := fun s => max1_map ⟨p1, hp1, by rw [e1]⟩ fun p hp => by have := (mem_cells.mp hp).1; omega
  have q2 : ∀ s : S, callB s .max1 [.lst (x.cells.map fun p => .int (p.2 : Nat))] = some (.int (x.w - 1 : Nat)) := fun s => max1_map ⟨p2, hp2, by rw [e2]⟩ fun p hp => by have := (mem_cells.mp hp).2.1; omega
  have z1 : (1 : Int) + (x.h - 1 : Nat) = (x.h : Nat) := by omega
  have z2 : (1 : Int) + (x.w - 1 : Nat) = (x.w : Nat) := by omega
  simp [b__law_drawn, cellsD, show x.cells.length ≤ LIM by omega]
  rw [lcMap (f := fun p => .int (p.1 : Nat)) (fun p hp => by simp [lcT_none, pn])]
  simp [q1, z1, show x.cells.length ≤ LIM by omega]
  rw [lcMap (f := fun p => .int (p.2 : Nat)) (fun p hp => by simp [lcT_none, pn])]
  simp [q2, z2, it_r1 (LIM62 (LIM4 h4))]
  rw [forL_range (E := fun j => [some (cellsD x.cells), some (.int (x.h : Nat)), lv none (fun i => .int (i : Nat)) j, none, some (.int (x.w : Nat)), some (.rg cs.length)]) (Sg := fun j => ⟨bs, cs ++ [⟨false, .lst ((List.range j).map fun r => .str (grow x.w (x.p r)))⟩]⟩) ?_ ?_ (fun j hj => ?_)]
  rotate_left
  · rfl
  · rfl
  · have hin : ∀ (s : S) (c : Nat), c < x.w → cmpD s .inn (.tup [.int (j : Nat), .int (c : Nat)]) (.lst (x.cells.map pn)) = some (x.p j c) := fun s c hc => by
      have := in_lst (f := pn) (s := s) (a := (j, c)) (as := x.cells) (fun a => plain_pn a 5) eq_pn
      have e : decide ((j, c) ∈ x.cells) = x.p j c := by
        rw [Bool.eq_iff_iff, decide_eq_true_eq, mem_cells]
        exact ⟨fun h => h.2.2, fun h => ⟨hj, hc, h⟩⟩
      rw [← e]
      exact this
    have hsub : ∀ (s : S) (b : Bool), subD s (.str [46, 35]) (.int (if b = true then 1 else 0)) = some (.str [sg b]) := fun s b => by cases b <;> rfl
    simp [loopT_def, it_r1 (LIM62 (LIM4 w4)), LIM4 w4, cellsD]
    rw [lcMap (f := fun c => .str [sg (x.p j c)]) (fun c hc => by
      simp [lcT_none, hin _ c (List.mem_range.mp hc), show 2 ≤ LIM by omega]
      cases x.p j c <;> rfl)]
    simp
    rw [join_signs (by simpa using LIM4 w4)]
    simp
    rw [app_0 (by simp; omega) rfl]
    simp [List.range_succ]
    rfl
  · simp [enc_rows, Sh.rows, grows, Function.comp_def]
def Sh.lcl (x : Sh) (t : Nat) : List (Nat × Nat) := (x.turns t).cells
theorem plain_cells6 (l : List (Nat × Nat)) : plainD 6 (cellsD l) = true := plains_map (fun a => plain_pn a 4) l
theorem eq_cells (a b : List (Nat × Nat)) : eqD (cellsD a) (cellsD b) = decide (a = b) := by
  unfold cellsD
  rw [eq_lst, eq_map eq_pn]
theorem f_lcells4 {n : Nat} {x : Sh} {t : Nat} {s : S} (g : x.ok) (ht : t < 4) : (KF TB (n + 1)).fnF 13 [x.enc, .int (t : Nat)] s = .ok (cellsD (x.lcl t)) s := by
  rw [f_lcells g, Nat.mod_eq_of_lt ht]; rfl
theorem f_lturns {n : Nat} {x : Sh} {s : S} (g : x.ok) : (KF TB (n + 2)).fnF 15 [x.enc] s = .ok (.lst ((looks x.lcl 4).map natD)) s := by
  have hL : (100 : Nat) < LIM := by decide
  refine k_new (d := .rg (s.cs.length + 1)) (new := [⟨false, .lst ((looks x.lcl 4).map fun t => cellsD (x.lcl t))⟩, ⟨false, .lst ((looks x.lcl 4).map natD)⟩]) ?_ (fun bs => ?_)
  rotate_left
  · have := plains_map (n := 7) (f := natD) (fun a => rfl) (looks x.lcl 4)
    simp [frz, frzs_plain this (Nat.le_refl 7)]
  rw [run_of (fd := ⟨1, 5, b__law_turns⟩) rfl rfl]
  generalize s.cs.length :: s.bs = bs
  generalize s.cs = cs
  simp [b__law_turns]
  rw [show (4 : Int) = ((4 : Nat) : Int) from rfl, it_r1 (by decide), onIt_some, forL_range (E := fun j => [some x.enc, some (.rg cs.length), some (.rg (cs.length + 1)), lv none (fun i => .int (i : Nat)) j, lv none (fun i => cellsD (x.lcl i)) j]) (Sg := fun j => ⟨bs, cs ++ [⟨false, .lst ((looks x.lcl j).map fun t => cellsD (x.lcl t))⟩, ⟨false, .lst ((looks x.lcl j).map natD)⟩]⟩) ?_ ?_ (fun j hj => ?_)]
  · simp
  · rfl
  · rfl
  · have hl := looks_len (f := x.lcl) j
    have hn : ∀ c, cmpD ⟨bs, cs ++ [⟨false, .lst ((looks x.lcl j).map fun t => cellsD (x.lcl t))⟩, c]⟩ .nin (cellsD (x.lcl j)) (.rg cs.length) = some (!decide (x.lcl j ∈ (looks x.lcl j).map x.lcl)) := fun c => nin_rg (f := cellsD) plain_cells6 eq_cells (b := false) (by simp [Function.comp_def])
    simp [loopT_def, f_lcells4 g hj]
    by_cases h : x.lcl j ∈ (looks x.lcl j).map x.lcl
    · simp only [decide_eq_true h] at hn
      rw [looks, if_pos h]
      simp [hn]
    · simp only [decide_eq_false h] at hn
      rw [looks, if_neg h]
      simp [hn]
      rw [app_00 (by simp; omega) plain_cells]
      simp
      rw [app_01 (by simp; omega) rfl]
      simp
      rfl
/-- a shape's cells tell it -/
theorem rows_of_cells {x y : Sh} (gx : x.ok) (gy : y.ok) : x.rows = y.rows ↔ x.cells = y.cells := by
  constructor
  · intro h
    have hh : x.h = y.h := by
      have := congrArg List.length h
      simpa [Sh.rows, grows_len] using this
    have hr : ∀ r, r < x.h → grow x.w (x.p r) = grow y.w (y.p r) := fun r hr => by
      have e := congrArg (fun l => l[r]?) h
      simp only [Sh.rows] at e
      rw [grows_at hr, grows_at (by omega)] at e
      exact Option.some.inj e
    have hw : x.w = y.w := by
      have := congrArg List.length (hr 0 (by have := gx.h1; omega))
      simpa [grow_len] using this
    have hp : ∀ r c, r < x.h → c < x.w → x.p r c = y.p r c := fun r c h1 h2 => by
      have e := congrArg (fun l => l[c]?) (hr r h1)
      rw [grow_at h2, grow_at (by omega)] at e
      have := Option.some.inj e
      cases h3 : x.p r c <;> cases h4 : y.p r c <;> simp [h3, h4, sg] at this ⊢
    have hrow : ∀ k, k ≤ x.h → x.upto k = y.upto k := fun k => by
      induction k with
      | zero => intro _; rfl
      | succ k ih =>
        intro hk
        rw [Sh.upto_succ, Sh.upto_succ, ih (by omega)]
        congr 1
        unfold Sh.row
        rw [← hw]
        congr 1
        exact List.filter_congr fun c hc => hp k c (by omega) (List.mem_range.mp hc)
    show x.upto x.h = y.upto y.h
    rw [← hh]
    exact hrow _ (Nat.le_refl _)
  · intro h
    have key : ∀ {x y : Sh}, x.ok → y.ok → x.cells = y.cells → x.h ≤ y.h ∧ x.w ≤ y.w := fun {x y} gx gy h => by
      obtain ⟨⟨p1, hp1, e1⟩, ⟨p2, hp2, e2⟩⟩ := cells_wide gx
      have a1 := (mem_cells.mp (h ▸ hp1)).1
      have a2 := (mem_cells.mp (h ▸ hp2)).2.1
      have := gx.h1
      have := gx.w1
      omega
    have k1 := key gx gy h
    have k2 := key gy gx h.symm
    have hh : x.h = y.h := by omega
    have hw : x.w = y.w := by omega
    have hp : ∀ r c, r < x.h → c < x.w → x.p r c = y.p r c := fun r c h1 h2 => by
      rw [Bool.eq_iff_iff]
      constructor
      · intro h3
        have h4 : (r, c) ∈ x.cells := mem_cells.mpr ⟨h1, h2, h3⟩
        rw [h] at h4
        exact (mem_cells.mp h4).2.2
      · intro h3
        have h4 : (r, c) ∈ y.cells := mem_cells.mpr ⟨by rw [← hh]; exact h1, by rw [← hw]; exact h2, h3⟩
        rw [← h] at h4
        exact (mem_cells.mp h4).2.2
    unfold Sh.rows grows
    rw [hh]
    refine List.map_congr_left fun r hr => ?_
    unfold grow
    rw [hw]
    refine List.map_congr_left fun c hc => ?_
    rw [hp r c (by have := List.mem_range.mp hr; omega) (by have := List.mem_range.mp hc; omega)]
/-- the turns that the law tells are the shape's -/
theorem tof_lturns {x : Sh} (g : x.ok) : looks x.lcl 4 = x.tof :=
  looks_congr 4 fun a b _ _ => (rows_of_cells (g.turns a) (g.turns b)).symm
end Law

set_option Elab.async false
set_option linter.all false
set_option maxRecDepth 100000
set_option maxHeartbeats 1000000
set_option autoImplicit false
/-! P01g: refusals; the law. -/
namespace Law
open M M.Ev
def tRefused : Tx := [114, 101, 102, 117, 115, 101, 100]
/-- what is raised, told -/
def wordX : Nat → Tx
  | 1 => [115, 104, 97, 112, 101]
  | 2 => [107, 105, 110, 100]
  | 3 => [110, 117, 109, 98, 101, 114]
  | 4 => [112, 108, 97, 99, 101]
  | 5 => [112, 105, 108, 101]
  | 6 => [115, 108, 111, 116]
  | _ => [116, 101, 120, 116]
def refD (c : Nat) : D := .tup [.str tRefused, .str (wordX c)]
theorem isR_k {k c : Nat} {s : S} (h : c < 16) : isR (some k) (.exc c) s = .ok (.bl (decide (k = c))) s := by unfold isR; simp only [h, if_true]
theorem isR_n {c : Nat} {s : S} (h : c < 16) : isR none (.exc c) s = .ok (.bl true) s := by unfold isR; simp only [h, if_true]
theorem f_refusal {n c : Nat} {s : S} (h1 : 1 ≤ c) (h7 : c ≤ 7) : (KF TB (n + 1)).fnF 11 [.exc c] s = .ok (refD c) s := by
  have hL : (100 : Nat) < LIM := by decide
  refine k_plain (d := refD c) (new := [⟨false, .lst ([1, 2, 3].map fun k => .bl (decide (k = c)))⟩, ⟨false, .lst ([1, 2, 3, 4, 5, 6, 7].map fun k => .bl (decide (k = c)))⟩]) ?_ rfl
  rw [run_of (fd := ⟨1, 2, b__law_refusal⟩) rfl rfl]
  generalize s.cs.length :: s.bs = bs
  generalize s.cs = cs
  have hc16 : c < 16 := by omega
  simp [b__law_refusal, isR_k hc16, isR_n hc16, show 3 ≤ LIM by omega, show 6 ≤ LIM by omega, show 7 ≤ LIM by omega]
  rw [app_01 (by simp; omega) rfl]
  have hcount : ∀ (bs : List Nat) (c2 : CS), callM ⟨bs, cs ++ [c2, ⟨false, .lst ([1, 2, 3, 4, 5, 6, 7].map fun k => .bl (decide (k = c)))⟩]⟩ .count (.rg (cs.length + 1)) [.bl true] = .ok (.int 1) ⟨bs, cs ++ [c2, ⟨false, .lst ([1, 2, 3, 4, 5, 6, 7].map fun k => .bl (decide (k = c)))⟩]⟩ := fun bs c2 => by
    unfold callM
    simp
    match c, h1, h7 with
    | 1, _, _ => rfl
    | 2, _, _ => rfl
    | 3, _, _ => rfl
    | 4, _, _ => rfl
    | 5, _, _ => rfl
    | 6, _, _ => rfl
    | 7, _, _ => rfl
    | c + 8, _, h => omega
  have hindex : ∀ (bs : List Nat) (c2 : CS), callM ⟨bs, cs ++ [c2, ⟨false, .lst ([1, 2, 3, 4, 5, 6, 7].map fun k => .bl (decide (k = c)))⟩]⟩ .index (.rg (cs.length + 1)) [.bl true] = .ok (.int ((c - 1 : Nat) : Nat)) ⟨bs, cs ++ [c2, ⟨false, .lst ([1, 2, 3, 4, 5, 6, 7].map fun k => .bl (decide (k = c)))⟩]⟩ := fun bs c2 => by
    unfold callM
    simp
    match c, h1, h7 with
    | 1, _, _ => rfl
    | 2, _, _ => rfl
    | 3, _, _ => rfl
    | 4, _, _ => rfl
    | 5, _, _ => rfl
    | 6, _, _ => rfl
    | 7, _, _ => rfl
    | c + 8, _, h => omega
  simp at hcount hindex
  have hs : ∀ s : S, subD s (.lst [.str [115, 104, 97, 112, 101], .str [107, 105, 110, 100], .str [110, 117, 109, 98, 101, 114], .str [112, 108, 97, 99, 101], .str [112, 105, 108, 101], .str [115, 108, 111, 116], .str [116, 101, 120, 116]]) (.int (c - 1 : Nat)) = some (.str (wordX c)) := fun s => by
    match c, h1, h7 with
    | 1, _, _ => rfl
    | 2, _, _ => rfl
    | 3, _, _ => rfl
    | 4, _, _ => rfl
    | 5, _, _ => rfl
    | 6, _, _ => rfl
    | 7, _, _ => rfl
    | c + 8, _, h => omega
  simp [hcount, hindex, isR_n hc16, show 7 ≤ LIM by omega, hs, show 2 ≤ LIM by omega]
  rfl
/-- what look_shape refuses -/
def BadSh (d : D) : Prop := plainD 8 d = true ∧ ∀ (n : Nat) (s : S), runF TB (n + 1) 0 [d] s = .exc 1 s
theorem f_lookB {n : Nat} {d : D} {s : S} (h : BadSh d) : (KF TB (n + 1)).fnF 0 [d] s = .exc 1 s :=
  k_exc (new := []) (by rw [List.append_nil]; exact h.2 n _)
theorem f_turnedB {n : Nat} {d k : D} {s : S} (h : BadSh d) : (KF TB (n + 2)).fnF 2 [d, k] s = .exc 1 s := by
  refine k_exc (new := []) ?_
  rw [List.append_nil, run_of (fd := ⟨2, 3, b_turned⟩) rfl rfl]
  simp [b_turned, f_lookB h]
theorem f_cellsB {n : Nat} {d : D} {s : S} (h : BadSh d) : (KF TB (n + 2)).fnF 3 [d] s = .exc 1 s := by
  refine k_exc (new := []) ?_
  rw [List.append_nil, run_of (fd := ⟨1, 4, b_cells⟩) rfl rfl]
  simp [b_cells, f_lookB h]
theorem f_sizeB {n : Nat} {d : D} {s : S} (h : BadSh d) : (KF TB (n + 3)).fnF 4 [d] s = .exc 1 s := by
  refine k_exc (new := []) ?_
  rw [List.append_nil, run_of (fd := ⟨1, 2, b_size⟩) rfl rfl]
  simp [b_size, f_cellsB h]
theorem f_turns_ofB {n : Nat} {d : D} {s : S} (h : BadSh d) : (KF TB (n + 2)).fnF 5 [d] s = .exc 1 s := by
  refine k_exc (new := []) ?_
  rw [List.append_nil, run_of (fd := ⟨1, 4, b_turns_of⟩) rfl rfl]
  simp [b_turns_of, f_lookB h]
theorem f_told_bad {n k : Nat} {d : D} {s : S} (h : BadSh d) (hk : k < 5) : (KF TB (n + 4)).fnF 16 [.int (k : Nat), d] s = .ok (refD 1) s := by
  refine k_plain (new := []) ?_ rfl
  rw [List.append_nil, run_of (fd := ⟨2, 5, b__law_told⟩) rfl rfl]
  match k, hk with
  | 0, _ => simp [b__law_told, x_try, f_lookB h, tryF_s, f_refusal]
  | 1, _ => simp [b__law_told, x_try, f_cellsB h, tryF_s, f_refusal]
  | 2, _ => simp [b__law_told, x_try, f_turnedB h, tryF_s, f_refusal]
  | 3, _ => simp [b__law_told, x_try, f_turns_ofB h, tryF_s, f_refusal]
  | 4, _ => simp [b__law_told, x_try, f_sizeB h, tryF_s, f_refusal]
  | k + 5, h => omega
theorem f_told_good {n : Nat} {x : Sh} {s : S} (g : x.ok) : (KF TB (n + 2)).fnF 16 [.int 0, x.enc] s = .ok .non s := by
  refine k_plain (new := []) ?_ rfl
  rw [List.append_nil, run_of (fd := ⟨2, 5, b__law_told⟩) rfl rfl]
  simp [b__law_told, x_try, f_look' g]
def badL : List D := [.tup [], .tup [.str []], .tup [.str [35, 35, 35, 35, 35]], .tup [.str [35], .str [35], .str [35], .str [35], .str [35]], .tup [.str [35], .str [35, 35]], .tup [.str [35, 120]], .tup [.str [46, 35], .str [46, 35]], .tup [.str [46, 46], .str [35, 35]], .tup [.str [35, 35], .str [46, 46]], .tup [.str [35, 46], .str [35, 46]]]
theorem bad_side (a : Tx) (ha : a = [46, 35] ∨ a = [35, 46]) (n : Nat) (s : S) : runF TB (n + 1) 0 [D.tup [D.str a, D.str a]] s = R.exc 1 s := by
  rw [run_of (fd := ⟨1, 5, b_look_shape⟩) rfl rfl]
  have hL : 100 < LIM := by decide
  have e1 : ∀ s : S, subD s (.tup [.str a, .str a]) (.int 0) = some (.str a) := fun _ => rfl
  have e2 : ∀ s : S, subD s (.tup [.str a, .str a]) (.int (-1)) = some (.str a) := fun _ => rfl
  have hl : a.length = 2 := by rcases ha with rfl | rfl <;> rfl
  have e3 : ∀ s : S, callB s .len [.str a] = some (.int 2) := fun s => by rw [l_str (by omega), hl]; rfl
  have e4 : ∀ s : S, callM s .join (.str []) [.tup [.str a, .str a]] = .ok (.str (a ++ a)) s := fun s => by rcases ha with rfl | rfl <;> rfl
  have e5 : ∀ (s : S), cmpD s .inn (.str [46]) (.tup [.str [35], .str [46]]) = some true := fun _ => rfl
  have e6 : ∀ (s : S), cmpD s .inn (.str [35]) (.tup [.str [35], .str [46]]) = some true := fun _ => rfl
  have e7 : ∀ (s : S), cmpD s .inn (.str [35]) (.str a) = some true := fun _ => by rcases ha with rfl | rfl <;> rfl
  have e8 : ∀ s : S, subD s (.str [46, 35]) (.int 0) = some (.str [46]) := fun _ => rfl
  have e9 : ∀ s : S, subD s (.str [46, 35]) (.int (-1)) = some (.str [35]) := fun _ => rfl
  have e10 : ∀ s : S, subD s (.str [35, 46]) (.int 0) = some (.str [35]) := fun _ => rfl
  have e11 : ∀ s : S, subD s (.str [35, 46]) (.int (-1)) = some (.str [46]) := fun _ => rfl
  simp [b_look_shape, lc_nil, lc_cons, lcT_none, e1, e2, e3, e4, show 2 ≤ LIM by omega]
  rcases ha with rfl | rfl
  · simp [lc_nil, lc_cons, lcT_none, e1, e2, e3, e5, e6, e7, e8, e9, show 2 ≤ LIM by omega, show 4 ≤ LIM by omega]
  · simp [lc_nil, lc_cons, lcT_none, e1, e2, e3, e5, e6, e7, e10, e11, show 2 ≤ LIM by omega, show 4 ≤ LIM by omega]
theorem bad_end (a b : Tx) (ha : a = [46, 46] ∧ b = [35, 35] ∨ a = [35, 35] ∧ b = [46, 46]) (n : Nat) (s : S) : runF TB (n + 1) 0 [D.tup [D.str a, D.str b]] s = R.exc 1 s := by
  rw [run_of (fd := ⟨1, 5, b_look_shape⟩) rfl rfl]
  have hL : 100 < LIM := by decide
  have e1 : ∀ s : S, subD s (.tup [.str a, .str b]) (.int 0) = some (.str a) := fun _ => rfl
  have e2 : ∀ s : S, subD s (.tup [.str a, .str b]) (.int (-1)) = some (.str b) := fun _ => rfl
  have hl : a.length = 2 ∧ b.length = 2 := by rcases ha with ⟨rfl, rfl⟩ | ⟨rfl, rfl⟩ <;> exact ⟨rfl, rfl⟩
  have e3 : ∀ s : S, callB s .len [.str a] = some (.int 2) := fun s => by rw [l_str (by omega), hl.1]; rfl
  have e3' : ∀ s : S, callB s .len [.str b] = some (.int 2) := fun s => by rw [l_str (by omega), hl.2]; rfl
  have e4 : ∀ s : S, callM s .join (.str []) [.tup [.str a, .str b]] = .ok (.str (a ++ b)) s := fun s => by rcases ha with ⟨rfl, rfl⟩ | ⟨rfl, rfl⟩ <;> rfl
  have e5 : ∀ (s : S), cmpD s .inn (.str [46]) (.tup [.str [35], .str [46]]) = some true := fun _ => rfl
  have e6 : ∀ (s : S), cmpD s .inn (.str [35]) (.tup [.str [35], .str [46]]) = some true := fun _ => rfl
  have e7 : ∀ (s : S), cmpD s .inn (.str [35]) (.str [46, 46]) = some false := fun _ => rfl
  have e8 : ∀ (s : S), cmpD s .inn (.str [35]) (.str [35, 35]) = some true := fun _ => rfl
  simp [b_look_shape, lc_nil, lc_cons, lcT_none, e1, e2, e3, e3', e4, show 2 ≤ LIM by omega]
  rcases ha with ⟨rfl, rfl⟩ | ⟨rfl, rfl⟩
  · simp [lc_nil, lc_cons, lcT_none, e1, e2, e5, e6, e7, e8, show 2 ≤ LIM by omega, show 4 ≤ LIM by omega]
  · simp [lc_nil, lc_cons, lcT_none, e1, e2, e5, e6, e7, e8, show 2 ≤ LIM by omega, show 4 ≤ LIM by omega]
theorem bad_sign (n : Nat) (s : S) : runF TB (n + 1) 0 [D.tup [D.str [35, 120]]] s = R.exc 1 s := by
  rw [run_of (fd := ⟨1, 5, b_look_shape⟩) rfl rfl]
  have hL : 100 < LIM := by decide
  have e1 : ∀ s : S, subD s (.tup [.str [35, 120]]) (.int 0) = some (.str [35, 120]) := fun _ => rfl
  have e3 : ∀ s : S, callB s .len [.str [35, 120]] = some (.int 2) := fun s => rfl
  have e4 : ∀ s : S, callM s .join (.str []) [.tup [.str [35, 120]]] = .ok (.str [35, 120]) s := fun s => rfl
  have e5 : ∀ (s : S), cmpD s .inn (.str [120]) (.tup [.str [35], .str [46]]) = some false := fun _ => rfl
  have e6 : ∀ (s : S), cmpD s .inn (.str [35]) (.tup [.str [35], .str [46]]) = some true := fun _ => rfl
  simp [b_look_shape, lc_nil, lc_cons, lcT_none, e1, e3, e4, e5, e6, show 2 ≤ LIM by omega, show 1 ≤ LIM by omega]
theorem bad_rows (n : Nat) (s : S) : runF TB (n + 1) 0 [D.tup [D.str [35], D.str [35, 35]]] s = R.exc 1 s := by
  rw [run_of (fd := ⟨1, 5, b_look_shape⟩) rfl rfl]
  have hL : 100 < LIM := by decide
  have e1 : ∀ s : S, subD s (.tup [.str [35], .str [35, 35]]) (.int 0) = some (.str [35]) := fun _ => rfl
  have e3 : ∀ s : S, callB s .len [.str [35]] = some (.int 1) := fun s => rfl
  have e4 : ∀ s : S, callB s .len [.str [35, 35]] = some (.int 2) := fun s => rfl
  simp [b_look_shape, lc_nil, lc_cons, lcT_none, e1, e3, e4, show 2 ≤ LIM by omega]
theorem bad_all : ∀ d ∈ badL, BadSh d := by
  unfold badL
  simp only [List.forall_mem_cons, List.not_mem_nil, false_imp_iff, implies_true, and_true]
  refine ⟨⟨rfl, fun _ _ => rfl⟩, ⟨rfl, fun _ _ => rfl⟩, ⟨rfl, fun _ _ => rfl⟩, ⟨rfl, fun _ _ => rfl⟩, ⟨rfl, bad_rows⟩, ⟨rfl, bad_sign⟩, ⟨rfl, bad_side _ (.inl rfl)⟩, ⟨rfl, bad_end _ _ (.inl ⟨rfl, rfl⟩)⟩, ⟨rfl, bad_end _ _ (.inr ⟨rfl, rfl⟩)⟩, ⟨rfl, bad_side _ (.inr rfl)⟩⟩
theorem turns_add {x : Sh} (k : Nat) : ∀ j, (x.turns k).turns j = x.turns (k + j)
  | 0 => rfl
  | j + 1 => by
    show ((x.turns k).turns j).turn = (x.turns (k + j)).turn
    rw [turns_add k j]
theorem rows_ext {x y : Sh} (hh : x.h = y.h) (hw : x.w = y.w) (hp : ∀ r c, r < x.h → c < x.w → x.p r c = y.p r c) : x.rows = y.rows := by
  unfold Sh.rows grows
  rw [← hh]
  refine List.map_congr_left fun r hr => ?_
  unfold grow
  rw [← hw]
  refine List.map_congr_left fun c hc => ?_
  rw [hp r c (List.mem_range.mp hr) (List.mem_range.mp hc)]
theorem rows_turns4 {x : Sh} : (x.turns 4).rows = x.rows := by
  refine rows_ext rfl rfl fun r c hr hc => ?_
  have hr : r < x.h := hr
  have hc : c < x.w := hc
  show x.p (x.h - 1 - (x.h - 1 - r)) (x.w - 1 - (x.w - 1 - c)) = x.p r c
  rw [show x.h - 1 - (x.h - 1 - r) = r by omega, show x.w - 1 - (x.w - 1 - c) = c by omega]
theorem look_own {x : Sh} {k : Nat} : (x.turns (k % 4)).rows ∈ (List.range 4).map x.look := List.mem_map.mpr ⟨k % 4, List.mem_range.mpr (by omega), rfl⟩
/-- turns of equal shapes are equal -/
theorem rows_turn {x y : Sh} (gx : x.ok) (gy : y.ok) (h : x.rows = y.rows) : x.turn.rows = y.turn.rows := by
  have hh : x.h = y.h := by
    have := congrArg List.length h
    simpa [Sh.rows, grows_len] using this
  have hr : ∀ r, r < x.h → grow x.w (x.p r) = grow y.w (y.p r) := fun r hr => by
    have e := congrArg (fun l => l[r]?) h
    simp only [Sh.rows] at e
    rw [grows_at hr, grows_at (by omega)] at e
    exact Option.some.inj e
  have hw : x.w = y.w := by
    have := congrArg List.length (hr 0 (by have := gx.h1; omega))
    simpa [grow_len] using this
  have hp : ∀ r c, r < x.h → c < x.w → x.p r c = y.p r c := fun r c h1 h2 => by
    have e := congrArg (fun l => l[c]?) (hr r h1)
    rw [grow_at h2, grow_at (by omega)] at e
    have := Option.some.inj e
    cases h3 : x.p r c <;> cases h4 : y.p r c <;> simp [h3, h4, sg] at this ⊢
  refine rows_ext hw hh fun r c h1 h2 => ?_
  have h1 : r < x.w := h1
  have h2 : c < x.h := h2
  show x.p (x.h - 1 - c) r = y.p (y.h - 1 - c) r
  rw [← hh]
  exact hp _ _ (by omega) h1
theorem rows_turns {x y : Sh} (gx : x.ok) (gy : y.ok) (h : x.rows = y.rows) : ∀ k, (x.turns k).rows = (y.turns k).rows
  | 0 => h
  | k + 1 => rows_turn (gx.turns k) (gy.turns k) (rows_turns gx gy h k)
theorem alike_back {x y : Sh} (gx : x.ok) (gy : y.ok) (h : y.rows ∈ (List.range 4).map x.look) : x.rows ∈ (List.range 4).map y.look := by
  obtain ⟨k, hk, e⟩ := List.mem_map.mp h
  have hk := List.mem_range.mp hk
  refine List.mem_map.mpr ⟨(4 - k) % 4, List.mem_range.mpr (by omega), ?_⟩
  have e2 := rows_turns (gx.turns k) gy e ((4 - k) % 4)
  rw [turns_add] at e2
  show (y.turns ((4 - k) % 4)).rows = x.rows
  rw [← e2]
  by_cases h0 : k = 0
  · subst h0; rfl
  · rw [show k + (4 - k) % 4 = 4 by omega]
    exact rows_turns4
theorem alike_sym {x y : Sh} (gx : x.ok) (gy : y.ok) : y.rows ∈ (List.range 4).map x.look ↔ x.rows ∈ (List.range 4).map y.look := ⟨alike_back gx gy, alike_back gy gx⟩
theorem alike_cells {x y : Sh} (gx : x.ok) (gy : y.ok) : y.rows ∈ (List.range 4).map x.look ↔ x.cells ∈ (List.range 4).map y.lcl := by
  rw [alike_sym gx gy, List.mem_map, List.mem_map]
  constructor
  · rintro ⟨k, hk, e⟩
    exact ⟨k, hk, (rows_of_cells (gy.turns k) gx).mp e⟩
  · rintro ⟨k, hk, e⟩
    exact ⟨k, hk, (rows_of_cells (gy.turns k) gx).mpr e⟩
end Law

set_option Elab.async false
set_option linter.all false
set_option maxRecDepth 100000
set_option maxHeartbeats 1000000
set_option autoImplicit false
/-! P10a: books. -/
namespace Law
open M M.Ev
abbrev fRows : Tx := [114, 111, 119, 115]
def BookA (cs : List CS) (d : D) (kvs : List (Ky × D)) : Prop := ∃ r, InsA cs d 18 [(fRows, r)] ∧ DctA cs r false kvs
theorem BookA.app {cs new : List CS} {d : D} {kvs : List (Ky × D)} (h : BookA cs d kvs) : BookA (cs ++ new) d kvs := let ⟨r, h1, h2⟩ := h; ⟨r, h1.app, h2.app⟩
/-- a kind, as a book has it -/
structure Kind where
  sh : Sh
  most : Nat
  may : Bool
  heavy : Nat
  tags : List Tx
def Kind.enc (k : Kind) : D := .tup [k.sh.enc, .int (k.most : Nat), .bl k.may, .int (k.heavy : Nat), .tup (k.tags.map .str)]
def smallC (c : Nat) : Bool := decide (97 ≤ c ∧ c ≤ 122)
def nameOk (x : Tx) : Bool := decide (1 ≤ x.length) && decide (x.length ≤ 8) && x.all smallC
abbrev SMALLS : Tx := [97, 98, 99, 100, 101, 102, 103, 104, 105, 106, 107, 108, 109, 110, 111, 112, 113, 114, 115, 116, 117, 118, 119, 120, 121, 122]
theorem smalls (c : Nat) : decide (c ∈ SMALLS) = decide (97 ≤ c ∧ c ≤ 122) := by
  rw [Bool.eq_iff_iff, decide_eq_true_eq, decide_eq_true_eq]
  simp only [List.mem_cons, List.not_mem_nil, or_false]
  omega
theorem r_name {n : Nat} {x : Tx} {s : S} (hx : x.length ≤ LIM) : runF TB (n + 1) 18 [.str x] s = if nameOk x then .ok .non s else .exc 2 s := by
  rw [run_of (fd := ⟨1, 2, b_look_name⟩) rfl rfl]
  have hin : ∀ (s : S) c, cmpD s .inn (.str [c]) (.str SMALLS) = some (smallC c) := fun s c => by
    rw [c_inn]; show some (decide (c ∈ SMALLS)) = _; rw [smalls]; rfl
  have hl : ∀ s : S, callB s .len [.str x] = some (.int (x.length : Nat)) := fun s => l_str hx
  by_cases h1 : 1 ≤ x.length
  · have h1' : (1 : Int) ≤ (x.length : Nat) := by omega
    by_cases h2 : x.length ≤ 8
    · have h2' : ((x.length : Nat) : Int) ≤ 8 := by omega
      simp [b_look_name, hl, h1', h2', hx]
      rw [lcMap (f := fun c => .bl (smallC c)) (fun c hc => by simp [lcT_none, hin])]
      have e : nameOk x = x.all smallC := by simp [nameOk, h1, h2]
      have e2 : (x.map smallC).all id = x.all smallC := by simp [List.all_map]
      rw [e]
      simp only [noX_ok, bind_ok, ifR_f, x_nil, b_all, bls_m, Option.map_some, optR_some, tru_ok', t_bl, st_ok, e2]
      cases hb : List.all x smallC <;> simp
    · have h2' : ¬ ((x.length : Nat) : Int) ≤ 8 := by omega
      simp [b_look_name, hl, h1', h2', nameOk, h1, h2]
  · have h1' : ¬ (1 : Int) ≤ (x.length : Nat) := by omega
    simp [b_look_name, hl, h1', nameOk, h1]
theorem f_name {n : Nat} {x : Tx} {s : S} (hx : x.length ≤ LIM) (h : nameOk x = true) : (KF TB (n + 1)).fnF 18 [.str x] s = .ok .non s :=
  k_plain (new := []) (by rw [List.append_nil, r_name hx, if_pos h]) rfl
theorem f_nameB {n : Nat} {x : Tx} {s : S} (hx : x.length ≤ LIM) (h : nameOk x = false) : (KF TB (n + 1)).fnF 18 [.str x] s = .exc 2 s :=
  k_exc (new := []) (by rw [List.append_nil, r_name hx, h]; rfl)
section
variable {n : Nat} {cs : List CS} {bs : List Nat} {d : D} {kvs : List (Ky × D)} {x : Tx}
theorem f_need (h : BookA cs d kvs) {v : D} (hk : getK kvs (.s x) = some v) : (KF TB (n + 1)).fnF 21 [d, .str x] ⟨bs, cs⟩ = .ok .non ⟨bs, cs⟩ := by
  obtain ⟨r, h1, h2⟩ := h
  refine k_plain (new := []) ?_ rfl
  rw [List.append_nil, run_of (fd := ⟨2, 2, b_Book_need⟩) rfl rfl]
  simp [b_Book_need, h1 _, List.lookup, nin_dct (h2 _) key_s, hk]
theorem f_needB (h : BookA cs d kvs) (hk : getK kvs (.s x) = none) : (KF TB (n + 1)).fnF 21 [d, .str x] ⟨bs, cs⟩ = .exc 2 ⟨bs, cs⟩ := by
  obtain ⟨r, h1, h2⟩ := h
  refine k_exc (new := []) ?_
  rw [List.append_nil, run_of (fd := ⟨2, 2, b_Book_need⟩) rfl rfl]
  simp [b_Book_need, h1 _, List.lookup, nin_dct (h2 _) key_s, hk]
/-- a kind of the book -/
theorem f_shape (h : BookA cs d kvs) {k : Kind} (hk : getK kvs (.s x) = some k.enc) : (KF TB (n + 2)).fnF 23 [d, .str x] ⟨bs, cs⟩ = .ok k.sh.enc ⟨bs, cs⟩ := by
  have hn := fun bs => f_need (n := n) (bs := bs) h hk
  obtain ⟨r, h1, h2⟩ := h
  refine k_plain (new := []) ?_ plain_enc
  rw [List.append_nil, run_of (fd := ⟨2, 2, b_Book_shape⟩) rfl rfl]
  have e : ∀ s : S, subD s k.enc (.int 0) = some k.sh.enc := fun _ => rfl
  simp [b_Book_shape, h1 _, List.lookup, sub_dct (h2 _) key_s, hk, hn, e]
theorem f_most (h : BookA cs d kvs) {k : Kind} (hk : getK kvs (.s x) = some k.enc) : (KF TB (n + 2)).fnF 24 [d, .str x] ⟨bs, cs⟩ = .ok (.int (k.most : Nat)) ⟨bs, cs⟩ := by
  have hn := fun bs => f_need (n := n) (bs := bs) h hk
  obtain ⟨r, h1, h2⟩ := h
  refine k_plain (new := []) ?_ rfl
  rw [List.append_nil, run_of (fd := ⟨2, 2, b_Book_most⟩) rfl rfl]
  have e : ∀ s : S, subD s k.enc (.int 1) = some (.int (k.most : Nat)) := fun _ => rfl
  simp [b_Book_most, h1 _, List.lookup, sub_dct (h2 _) key_s, hk, hn, e]
theorem f_weight (h : BookA cs d kvs) {k : Kind} (hk : getK kvs (.s x) = some k.enc) : (KF TB (n + 2)).fnF 26 [d, .str x] ⟨bs, cs⟩ = .ok (.int (k.heavy : Nat)) ⟨bs, cs⟩ := by
  have hn := fun bs => f_need (n := n) (bs := bs) h hk
  obtain ⟨r, h1, h2⟩ := h
  refine k_plain (new := []) ?_ rfl
  rw [List.append_nil, run_of (fd := ⟨2, 2, b_Book_weight⟩) rfl rfl]
  have e : ∀ s : S, subD s k.enc (.int 3) = some (.int (k.heavy : Nat)) := fun _ => rfl
  simp [b_Book_weight, h1 _, List.lookup, sub_dct (h2 _) key_s, hk, hn, e]
/-- the turns that a kind has -/
def Kind.turns (k : Kind) : List Nat := if k.may then k.sh.tof else [0]
theorem f_turns (h : BookA cs d kvs) {k : Kind} (g : k.sh.ok) (hk : getK kvs (.s x) = some k.enc) : (KF TB (n + 4)).fnF 25 [d, .str x] ⟨bs, cs⟩ = .ok (.lst (k.turns.map natD)) ⟨bs, cs⟩ := by
  have hn := fun bs => f_need (n := n + 2) (bs := bs) h hk
  obtain ⟨r, h1, h2⟩ := h
  refine k_plain (new := []) ?_ (plains_map (fun a => rfl) _)
  rw [List.append_nil, run_of (fd := ⟨2, 2, b_Book_turns⟩) rfl rfl]
  have e : ∀ s : S, subD s k.enc (.int 2) = some (.bl k.may) := fun _ => rfl
  have e0 : ∀ s : S, subD s k.enc (.int 0) = some k.sh.enc := fun _ => rfl
  simp [b_Book_turns, h1 _, List.lookup, sub_dct (h2 _) key_s, hk, hn, e]
  unfold Kind.turns
  cases k.may with
  | true => simp [h1 _, List.lookup, sub_dct (h2 _) key_s, hk, e0, f_turns_of g]
  | false => simp [show 1 ≤ LIM by decide]; rfl
theorem f_has_tag (h : BookA cs d kvs) {k : Kind} {t : Tx} (hk : getK kvs (.s x) = some k.enc) : (KF TB (n + 2)).fnF 27 [d, .str x, .str t] ⟨bs, cs⟩ = .ok (.bl (decide (t ∈ k.tags))) ⟨bs, cs⟩ := by
  have hn := fun bs => f_need (n := n) (bs := bs) h hk
  obtain ⟨r, h1, h2⟩ := h
  refine k_plain (new := []) ?_ rfl
  rw [List.append_nil, run_of (fd := ⟨3, 3, b_Book_has_tag⟩) rfl rfl]
  have e : ∀ s : S, subD s k.enc (.int 4) = some (.tup (k.tags.map .str)) := fun _ => rfl
  have hi : ∀ s : S, cmpD s .inn (.str t) (.tup (k.tags.map .str)) = some (decide (t ∈ k.tags)) := fun s => in_tup (f := D.str) (fun a => rfl) eq_str
  simp [b_Book_has_tag, h1 _, List.lookup, sub_dct (h2 _) key_s, hk, hn, e, hi]
/-- all names -/
theorem f_names (h : BookA cs d kvs) {ns : List Tx} (hs : canSort (kvs.map fun p => kyD p.1) = true) (hl : kvs.length ≤ 1000) (he : sortD (kvs.map fun p => kyD p.1) = ns.map .str) : (KF TB (n + 1)).fnF 22 [d] ⟨bs, cs⟩ = .ok (.lst (ns.map .str)) ⟨bs, cs⟩ := by
  obtain ⟨r, h1, h2⟩ := h
  refine k_plain (new := []) ?_ (plains_map (fun a => rfl) _)
  rw [List.append_nil, run_of (fd := ⟨1, 1, b_Book_names⟩) rfl rfl]
  simp [b_Book_names, h1 _, List.lookup, keysOf, h2 _, hs, hl, he]
end
end Law

set_option Elab.async false
set_option linter.all false
set_option maxRecDepth 100000
set_option maxHeartbeats 1000000
set_option autoImplicit false
/-! P10b: a book is made; a kind is added. -/
namespace Law
open M M.Ev
theorem may_newer {cs : List CS} {bs : List Nat} {k j : Nat} (hb : ∀ b ∈ bs, b ≤ k) {d : D} : mayPut ⟨bs, cs⟩ k d = true := by
  unfold mayPut
  rw [List.all_eq_true]
  intro b h
  rw [decide_eq_true (hb b h)]; rfl
theorem r_book_init {n : Nat} {cs : List CS} {bs : List Nat} (hb : ∀ b ∈ bs, b ≤ cs.length) : runF TB (n + 1) 19 [.rg cs.length] ⟨bs, cs ++ [⟨false, .ins 18 []⟩]⟩ = .ok .non ⟨bs, cs ++ [⟨false, .ins 18 [(fRows, .rg (cs.length + 1))]⟩, ⟨false, .dct false []⟩]⟩ := by
  rw [run_of (fd := ⟨1, 1, b_Book___init__⟩) rfl rfl]
  have hm : ∀ c, mayPut ⟨bs, c⟩ cs.length (.rg (cs.length + 1)) = true := fun c => may_newer (j := 0) hb
  simp [b_Book___init__, newCell, hm, M.putF]
theorem new_book {n : Nat} {cs : List CS} {bs : List Nat} {e : M.Env} (hb : ∀ b ∈ bs, b ≤ cs.length) : evE (KF TB (n + 1)) (.make 18 19 []) e ⟨bs, cs⟩ = .ok (.rg cs.length) ⟨bs, cs ++ [⟨false, .ins 18 [(fRows, .rg (cs.length + 1))]⟩, ⟨false, .dct false []⟩]⟩ := by
  simp [r_book_init (n := n) hb]
/-- a book in two cells -/
def BookC (cs : List CS) (b r : Nat) (kvs : List (Ky × D)) : Prop := cs[b]? = some ⟨false, .ins 18 [(fRows, .rg r)]⟩ ∧ cs[r]? = some ⟨false, .dct false kvs⟩
theorem BookC.a {cs : List CS} {b r : Nat} {kvs : List (Ky × D)} (h : BookC cs b r kvs) : BookA cs (.rg b) kvs :=
  ⟨.rg r, fun bs => by rw [ins_rg, h.1]; rfl, fun bs => by rw [dct_rg, h.2]; rfl⟩
/-- the names of tags are looked at -/
theorem tags_look {n : Nat} {s : S} {tags : List Tx} (hl : ∀ t ∈ tags, t.length ≤ LIM) {a0 a1 a2 a3 a4 a5 a6 o : Option D} :
    (tags.all nameOk = true → ∃ o', forL (loopT (KF TB (n + 1)) ⟨[7], false⟩ [.expr (.call true 18 [.var 7])]) (tags.map .str) [a0, a1, a2, a3, a4, a5, a6, o] s = .nx [a0, a1, a2, a3, a4, a5, a6, o'] s) ∧
    (tags.all nameOk = false → ∃ e, forL (loopT (KF TB (n + 1)) ⟨[7], false⟩ [.expr (.call true 18 [.var 7])]) (tags.map .str) [a0, a1, a2, a3, a4, a5, a6, o] s = .exc 2 e s) := by
  induction tags generalizing o with
  | nil => exact ⟨fun _ => ⟨o, rfl⟩, fun h => absurd h (by simp)⟩
  | cons t tags ih =>
    obtain ⟨i1, i2⟩ := ih (o := some (.str t)) fun x hx => hl x (.tail _ hx)
    cases h : nameOk t with
    | true =>
      have e : loopT (KF TB (n + 1)) ⟨[7], false⟩ [.expr (.call true 18 [.var 7])] (.str t) [a0, a1, a2, a3, a4, a5, a6, o] s = .nx [a0, a1, a2, a3, a4, a5, a6, some (.str t)] s := by
        simp [loopT_def, f_name (hl t (.head _)) h]
      rw [List.map_cons, forL, e, List.all_cons, h, Bool.true_and]
      exact ⟨i1, i2⟩
    | false =>
      have e : loopT (KF TB (n + 1)) ⟨[7], false⟩ [.expr (.call true 18 [.var 7])] (.str t) [a0, a1, a2, a3, a4, a5, a6, o] s = .exc 2 [a0, a1, a2, a3, a4, a5, a6, some (.str t)] s := by
        simp [loopT_def, f_nameB (hl t (.head _)) h]
      rw [List.map_cons, forL, e, List.all_cons, h, Bool.false_and]
      exact ⟨fun z => absurd z (by simp), fun _ => ⟨_, rfl⟩⟩
/-- what comes of adding a kind: None, or the error -/
def addOut (kvs : List (Ky × D)) (x : Tx) (shOk : Bool) (most heavy : Int) (tags : List Tx) : Option Nat :=
  if nameOk x = false then some 2 else if (getK kvs (.s x)).isSome = true ∨ kvs.length = 30 then some 2 else if shOk = false then some 1
  else if ¬ (1 ≤ most ∧ most ≤ 99 ∧ 0 ≤ heavy ∧ heavy ≤ 999) then some 3 else if tags.all nameOk = false then some 2 else none
/-- what has been handed in as a shape -/
def ShArg (d : D) (ok : Bool) : Prop := (ok = true ∧ ∃ x : Sh, x.ok ∧ d = x.enc) ∨ (ok = false ∧ BadSh d)
theorem ShArg.plain {d : D} {ok : Bool} (h : ShArg d ok) : plainD 8 d = true := by
  rcases h with ⟨_, x, _, rfl⟩ | ⟨_, h⟩
  · exact plain_enc
  · exact h.1
section
variable {n : Nat} {cs : List CS} {bs : List Nat} {b r : Nat} {kvs : List (Ky × D)} {x : Tx} {sd : D} {shOk may : Bool} {most heavy : Int} {tags tt : List Tx}
theorem f_add (h : BookC cs b r kvs) (hr : r < cs.length) (hx : x.length ≤ LIM) (hsd : ShArg sd shOk) (hp : plainD 5 sd = true) (htl : ∀ t ∈ tags, t.length ≤ LIM) (htt : ∀ s, callB s .setSorted [.lst (tags.map .str)] = some (.lst (tt.map .str))) (hk : kvs.length ≤ 30) :
    (KF TB (n + 2)).fnF 20 [.rg b, .str x, sd, .int most, .bl may, .int heavy, .lst (tags.map .str)] ⟨bs, cs⟩ = match addOut kvs x shOk most heavy tags with
      | some c => .exc c ⟨bs, cs⟩
      | none => .ok .non ⟨bs, cs.set r ⟨false, .dct false (putK kvs (.s x) (.tup [sd, .int most, .bl may, .int heavy, .tup (tt.map .str)]))⟩⟩ := by
  have hL : 1000 < LIM := by decide
  have i1 : ∀ bs, insOf ⟨bs, cs⟩ (.rg b) = some (18, [(fRows, .rg r)]) := fun bs => by rw [ins_rg, h.1]; rfl
  have i2 : ∀ bs, dctOf ⟨bs, cs⟩ (.rg r) = some (false, kvs) := fun bs => by rw [dct_rg, h.2]; rfl
  have hin : ∀ bs, cmpD ⟨bs, cs⟩ .inn (.str x) (.rg r) = some (getK kvs (.s x)).isSome := fun bs => in_dct (i2 bs) key_s
  have hlen : ∀ bs, callB ⟨bs, cs⟩ .len [.rg r] = some (.int (kvs.length : Nat)) := fun bs => len_dct (i2 bs)
  have exc : ∀ {c : Nat}, (∀ bs, runF TB (n + 2) 20 [.rg b, .str x, sd, .int most, .bl may, .int heavy, .lst (tags.map .str)] ⟨bs, cs⟩ = .exc c ⟨bs, cs⟩) → (KF TB (n + 2)).fnF 20 [.rg b, .str x, sd, .int most, .bl may, .int heavy, .lst (tags.map .str)] ⟨bs, cs⟩ = .exc c ⟨bs, cs⟩ := fun H => k_exc (new := []) (by rw [List.append_nil]; exact H _)
  unfold addOut
  by_cases c1 : nameOk x = false
  · rw [if_pos c1]
    refine exc fun bs => ?_
    rw [run_of (fd := ⟨7, 8, b_Book_add⟩) rfl rfl]
    simp [b_Book_add, f_nameB hx c1]
  rw [if_neg c1]
  have c1 : nameOk x = true := by simpa using c1
  by_cases c2 : (getK kvs (.s x)).isSome = true ∨ kvs.length = 30
  · rw [if_pos c2]
    refine exc fun bs => ?_
    rw [run_of (fd := ⟨7, 8, b_Book_add⟩) rfl rfl]
    cases hg : getK kvs (.s x) with
    | some v => simp [b_Book_add, f_name hx c1, i1, List.lookup, hin, hg]
    | none =>
      rw [hg] at c2
      have c3 : kvs.length = 30 := c2.elim (fun z => by cases z) id
      simp [b_Book_add, f_name hx c1, i1, List.lookup, hin, hg, hlen, c3]
  rw [if_neg c2]
  have c2a : (getK kvs (.s x)).isSome = false := by
    cases hg : (getK kvs (.s x)).isSome with
    | true => exact absurd (.inl hg) c2
    | false => rfl
  have c2b : ¬ ((kvs.length : Nat) : Int) = 30 := fun z => c2 (.inr (by omega))
  rcases hsd with ⟨rfl, sh, g, rfl⟩ | ⟨rfl, hb⟩
  · rw [if_neg (by simp)]
    by_cases c4 : ¬ (1 ≤ most ∧ most ≤ 99 ∧ 0 ≤ heavy ∧ heavy ≤ 999)
    · rw [if_pos c4]
      refine exc fun bs => ?_
      rw [run_of (fd := ⟨7, 8, b_Book_add⟩) rfl rfl]
      by_cases a1 : 1 ≤ most
      · by_cases a2 : most ≤ 99
        · by_cases a3 : 0 ≤ heavy
          · have a4 : ¬ heavy ≤ 999 := fun z => c4 ⟨a1, a2, a3, z⟩
            simp [b_Book_add, f_name hx c1, i1, List.lookup, hin, c2a, hlen, c2b, f_look' g, a1, a2, a3, a4]
          · simp [b_Book_add, f_name hx c1, i1, List.lookup, hin, c2a, hlen, c2b, f_look' g, a1, a2, a3]
        · simp [b_Book_add, f_name hx c1, i1, List.lookup, hin, c2a, hlen, c2b, f_look' g, a1, a2]
      · simp [b_Book_add, f_name hx c1, i1, List.lookup, hin, c2a, hlen, c2b, f_look' g, a1]
    rw [if_neg c4]
    have ⟨a1, a2, a3, a4⟩ := Classical.not_not.mp c4
    by_cases c5 : tags.all nameOk = false
    · rw [if_pos c5]
      refine exc fun bs => ?_
      rw [run_of (fd := ⟨7, 8, b_Book_add⟩) rfl rfl]
      obtain ⟨e, he⟩ := (tags_look (n := n) (s := ⟨bs, cs⟩) htl (a0 := some (.rg b)) (a1 := some (.str x)) (a2 := some sh.enc) (a3 := some (.int most)) (a4 := some (.bl may)) (a5 := some (.int heavy)) (a6 := some (.lst (tags.map .str))) (o := none)).2 c5
      simp [b_Book_add, f_name hx c1, i1, List.lookup, hin, c2a, hlen, c2b, f_look' g, a1, a2, a3, a4, he]
    · rw [if_neg c5]
      have hm : ∀ bs, mayPut ⟨bs, cs⟩ r (.tup [sh.enc, .int most, .bl may, .int heavy, .tup (tt.map .str)]) = true := fun bs => may_plain (by
        have h1 := plain_mono (m := 7) (by decide) hp
        have h2 : plainDs 6 (tt.map D.str) = true := plains_map (fun a => rfl) _
        simp [plainD, plainDs, h1, h2])
      have run : ∀ bs, runF TB (n + 2) 20 [.rg b, .str x, sh.enc, .int most, .bl may, .int heavy, .lst (tags.map .str)] ⟨bs, cs⟩ = .ok .non ⟨bs, cs.set r ⟨false, .dct false (putK kvs (.s x) (.tup [sh.enc, .int most, .bl may, .int heavy, .tup (tt.map .str)]))⟩⟩ := fun bs => by
        rw [run_of (fd := ⟨7, 8, b_Book_add⟩) rfl rfl]
        obtain ⟨o, ho⟩ := (tags_look (n := n) (s := ⟨bs, cs⟩) htl (a0 := some (.rg b)) (a1 := some (.str x)) (a2 := some sh.enc) (a3 := some (.int most)) (a4 := some (.bl may)) (a5 := some (.int heavy)) (a6 := some (.lst (tags.map .str))) (o := none)).1 (by simpa using c5)
        simp [b_Book_add, f_name hx c1, i1, List.lookup, hin, c2a, hlen, c2b, f_look' g, a1, a2, a3, a4, ho, htt, h.2, show 5 ≤ LIM by omega]
        rw [setIC_dct key_s (hm _) (by omega)]
        rfl
      exact k_st (run _) rfl (by simp)
  · rw [if_pos rfl]
    refine exc fun bs => ?_
    rw [run_of (fd := ⟨7, 8, b_Book_add⟩) rfl rfl]
    simp [b_Book_add, f_name hx c1, i1, List.lookup, hin, c2a, hlen, c2b, f_lookB hb]
end
end Law

set_option Elab.async false
set_option linter.all false
set_option maxRecDepth 100000
set_option maxHeartbeats 1000000
set_option autoImplicit false
/-! P10c: the law of books: what is told, what is due. -/
namespace Law
open M M.Ev
def outD : Option Nat → D
  | none => .non
  | some c => refD c
theorem addOut_le {kvs : List (Ky × D)} {x : Tx} {ok : Bool} {m h : Int} {tags : List Tx} {c : Nat} (e : addOut kvs x ok m h tags = some c) : 1 ≤ c ∧ c ≤ 7 := by
  unfold addOut at e
  repeat (first | (split at e; · cases e; omega) | (split at e; cases e; omega) | cases e)
abbrev tHand : Tx := [104, 97, 110, 100]
abbrev tHead : Tx := [104, 101, 97, 100]
section
variable {n : Nat} {cs : List CS} {bs : List Nat} {b r : Nat} {kvs : List (Ky × D)} {x : Tx} {sd : D} {shOk may : Bool} {most heavy : Int} {tags tt : List Tx}
def someD (x : Tx) (sd : D) (most : Int) (may : Bool) (heavy : Int) (tags : List Tx) : D := .tup [.str x, sd, .int most, .bl may, .int heavy, .lst (tags.map .str)]
theorem f_told2 (h : BookC cs b r kvs) (hr : r < cs.length) (hx : x.length ≤ LIM) (hsd : ShArg sd shOk) (hp : plainD 5 sd = true) (htl : ∀ t ∈ tags, t.length ≤ LIM) (htt : ∀ s, callB s .setSorted [.lst (tags.map .str)] = some (.lst (tt.map .str))) (hk : kvs.length ≤ 30) :
    (KF TB (n + 3)).fnF 28 [.rg b, someD x sd most may heavy tags] ⟨bs, cs⟩ = .ok (outD (addOut kvs x shOk most heavy tags)) (match addOut kvs x shOk most heavy tags with
      | some c => ⟨bs, cs⟩
      | none => ⟨bs, cs.set r ⟨false, .dct false (putK kvs (.s x) (.tup [sd, .int most, .bl may, .int heavy, .tup (tt.map .str)]))⟩⟩) := by
  have ha := fun bs => f_add (n := n) (bs := bs) (may := may) (most := most) (heavy := heavy) h hr hx hsd hp htl htt hk
  have i1 : ∀ bs, insOf ⟨bs, cs⟩ (.rg b) = some (18, [(fRows, .rg r)]) := fun bs => by rw [ins_rg, h.1]; rfl
  have s0 : ∀ s : S, subD s (someD x sd most may heavy tags) (.int 0) = some (.str x) := fun _ => rfl
  have s1 : ∀ s : S, subD s (someD x sd most may heavy tags) (.int 1) = some sd := fun _ => rfl
  have s2 : ∀ s : S, subD s (someD x sd most may heavy tags) (.int 2) = some (.int most) := fun _ => rfl
  have s3 : ∀ s : S, subD s (someD x sd most may heavy tags) (.int 3) = some (.bl may) := fun _ => rfl
  have s4 : ∀ s : S, subD s (someD x sd most may heavy tags) (.int 4) = some (.int heavy) := fun _ => rfl
  have s5 : ∀ s : S, subD s (someD x sd most may heavy tags) (.int 5) = some (.lst (tags.map .str)) := fun _ => rfl
  cases ho : addOut kvs x shOk most heavy tags with
  | none =>
    rw [ho] at ha
    simp only at ha
    refine k_st (cs' := cs.set r ⟨false, .dct false (putK kvs (.s x) (.tup [sd, .int most, .bl may, .int heavy, .tup (tt.map .str)]))⟩) ?_ rfl (by simp)
    rw [run_of (fd := ⟨2, 5, b__law_told_2⟩) rfl rfl]
    simp [b__law_told_2, x_try, i1, List.lookup, s0, s1, s2, s3, s4, s5, ha, outD]
  | some c =>
    obtain ⟨c1, c7⟩ := addOut_le ho
    rw [ho] at ha
    simp only at ha
    refine k_plain (new := []) ?_ rfl
    rw [List.append_nil, run_of (fd := ⟨2, 5, b__law_told_2⟩) rfl rfl]
    simp [b__law_told_2, x_try, i1, List.lookup, s0, s1, s2, s3, s4, s5, ha, outD, tryF_s (show c < 16 by omega), f_refusal c1 c7]
/-- what the law draws for a kind -/
structure Pk (x : Tx) (sd : D) (shOk : Bool) (most heavy : Int) (tags : List Tx) : Prop where
  nm : nameOk x = !decide (x ∈ ([[], [65, 120], [110, 105, 110, 101, 115, 105, 103, 110, 115]] : List Tx))
  sh : ShArg sd shOk
  s2 : ∃ rows : List Tx, sd = rowsD rows ∧ decide (rows ∈ ([[], [[46, 46]]] : List (List Tx))) = !shOk
  mo : (decide (most ∈ ([0, 100] : List Int)) || decide (heavy ∈ ([-1, 1000] : List Int))) = !decide (1 ≤ most ∧ most ≤ 99 ∧ 0 ≤ heavy ∧ heavy ≤ 999)
  tg : decide (([65] : Tx) ∈ tags) = !tags.all nameOk
theorem f_due {lv : D} {lvs : List (Ky × D)} (P : Pk x sd shOk most heavy tags) (hl : DctA cs lv false lvs) (hk : (getK kvs (.s x)).isSome = (getK lvs (.s x)).isSome) (h30 : kvs.length < 30) :
    (KF TB (n + 1)).fnF 30 [lv, someD x sd most may heavy tags] ⟨bs, cs⟩ = .ok (outD (addOut kvs x shOk most heavy tags)) ⟨bs, cs⟩ := by
  have hL : 1000 < LIM := by decide
  refine k_plain (new := []) ?_ (by cases addOut kvs x shOk most heavy tags <;> rfl)
  rw [List.append_nil, run_of (fd := ⟨2, 8, b__law_due⟩) rfl rfl]
  obtain ⟨p1, p2, ⟨rows, rfl, p3⟩, p4, p5⟩ := P
  have e1 : ∀ s : S, cmpD s .inn (.str x) (.tup [.str [], .str [65, 120], .str [110, 105, 110, 101, 115, 105, 103, 110, 115]]) = some (!nameOk x) := fun s => by
    have := in_tup (f := D.str) (s := s) (a := x) (as := [[], [65, 120], [110, 105, 110, 101, 115, 105, 103, 110, 115]]) (fun a => rfl) eq_str
    rw [p1, Bool.not_not]
    exact this
  have e2 : ∀ bs, cmpD ⟨bs, cs⟩ .inn (.str x) lv = some (getK kvs (.s x)).isSome := fun bs => by rw [hk]; exact in_dct (hl bs) key_s
  have e3 : ∀ s : S, cmpD s .inn (rowsD rows) (.tup [.tup [], .tup [.str [46, 46]]]) = some (!shOk) := fun s => by
    have := in_tup (f := rowsD) (s := s) (a := rows) (as := [[], [[46, 46]]]) plain_rows eq_rows
    rw [← p3]
    exact this
  have e4 : ∀ s : S, cmpD s .inn (.int most) (.tup [.int 0, .int 100]) = some (decide (most ∈ ([0, 100] : List Int))) := fun s => in_tup (f := D.int) (s := s) (a := most) (as := [0, 100]) (fun a => rfl) eq_int
  have e5 : ∀ s : S, cmpD s .inn (.int heavy) (.tup [.int (-1), .int 1000]) = some (decide (heavy ∈ ([-1, 1000] : List Int))) := fun s => in_tup (f := D.int) (s := s) (a := heavy) (as := [-1, 1000]) (fun a => rfl) eq_int
  have e6 : ∀ s : S, cmpD s .inn (.str [65]) (.lst (tags.map .str)) = some (!tags.all nameOk) := fun s => by rw [← p5]; exact in_lst (f := D.str) (fun a => rfl) eq_str
  unfold addOut
  have hne : ¬ kvs.length = 30 := by omega
  generalize (getK kvs (.s x)).isSome = g at *
  generalize decide (most ∈ ([0, 100] : List Int)) = m1 at *
  generalize decide (heavy ∈ ([-1, 1000] : List Int)) = m2 at *
  generalize tags.all nameOk = t at *
  generalize nameOk x = nm at *
  cases nm with
  | false => simp [b__law_due, someD, e1, show 3 ≤ LIM by omega, show 2 ≤ LIM by omega]; rfl
  | true =>
    cases g with
    | true => simp [b__law_due, someD, e1, e2, show 3 ≤ LIM by omega, show 2 ≤ LIM by omega]; rfl
    | false =>
      cases shOk with
      | false => simp [b__law_due, someD, e1, e2, e3, hne, show 3 ≤ LIM by omega, show 2 ≤ LIM by omega, show 1 ≤ LIM by omega]; rfl
      | true =>
        by_cases c4 : 1 ≤ most ∧ most ≤ 99 ∧ 0 ≤ heavy ∧ heavy ≤ 999
        · rw [decide_eq_true c4] at p4
          have q1 : m1 = false := by cases m1 <;> simp at p4 ⊢
          have q2 : m2 = false := by cases m1 <;> cases m2 <;> simp at p4 ⊢
          subst q1 q2
          cases t with
          | false => simp [b__law_due, someD, e1, e2, e3, e4, e5, e6, hne, c4, show 3 ≤ LIM by omega, show 2 ≤ LIM by omega, show 1 ≤ LIM by omega]; rfl
          | true => simp [b__law_due, someD, e1, e2, e3, e4, e5, e6, hne, c4, show 3 ≤ LIM by omega, show 2 ≤ LIM by omega, show 1 ≤ LIM by omega]; rfl
        · rw [decide_eq_false c4] at p4
          cases m1 with
          | true => simp [b__law_due, someD, e1, e2, e3, e4, hne, c4, show 3 ≤ LIM by omega, show 2 ≤ LIM by omega, show 1 ≤ LIM by omega]; rfl
          | false =>
            have q2 : m2 = true := by cases m2 <;> simp at p4 ⊢
            subst q2
            simp [b__law_due, someD, e1, e2, e3, e4, e5, hne, c4, show 3 ≤ LIM by omega, show 2 ≤ LIM by omega, show 1 ≤ LIM by omega]; rfl
end
end Law

set_option Elab.async false
set_option linter.all false
set_option maxRecDepth 100000
set_option maxHeartbeats 1000000
set_option autoImplicit false
/-! P10d: the law of books. -/
namespace Law
open M M.Ev
section
variable {n : Nat} {cs : List CS} {bs : List Nat} {d : D} {kvs : List (Ky × D)} {x : Tx}
theorem ins_of_book (h : BookA cs d kvs) (bs : List Nat) : ∃ r, insOf ⟨bs, cs⟩ d = some (18, [(fRows, r)]) := let ⟨r, h1, _⟩ := h; ⟨r, h1 bs⟩
/-- what is told of a kind -/
def askD (k : Kind) : Nat → D
  | 0 => k.sh.enc
  | 1 => .int (k.most : Nat)
  | 2 => .lst (k.turns.map natD)
  | 3 => .int (k.heavy : Nat)
  | _ => .bl (decide (tHand ∈ k.tags))
theorem f_asked (h : BookA cs d kvs) {k : Kind} (g : k.sh.ok) (hk : getK kvs (.s x) = some k.enc) {w : Nat} (hw : w < 5) : (KF TB (n + 5)).fnF 29 [d, .int (w : Nat), .str x] ⟨bs, cs⟩ = .ok (askD k w) ⟨bs, cs⟩ := by
  have hp : plainD 8 (askD k w) = true := by
    match w, hw with
    | 0, _ => exact plain_enc
    | 1, _ => rfl
    | 2, _ => exact plains_map (fun a => rfl) _
    | 3, _ => rfl
    | 4, _ => rfl
    | w + 5, h => omega
  refine k_plain (new := []) ?_ hp
  rw [List.append_nil, run_of (fd := ⟨3, 6, b__law_asked⟩) rfl rfl]
  obtain ⟨r, hi⟩ := ins_of_book h (cs.length :: bs)
  match w, hw with
  | 0, _ => simp [b__law_asked, x_try, hi, List.lookup, f_shape (n := n + 2) h hk, askD]
  | 1, _ => simp [b__law_asked, x_try, hi, List.lookup, f_most (n := n + 2) h hk, askD]
  | 2, _ => simp [b__law_asked, x_try, hi, List.lookup, f_turns (n := n) h g hk, askD]
  | 3, _ => simp [b__law_asked, x_try, hi, List.lookup, f_weight (n := n + 2) h hk, askD]
  | 4, _ => simp [b__law_asked, x_try, hi, List.lookup, f_has_tag (n := n + 2) h hk, askD]
  | w + 5, h => omega
theorem f_askedB (h : BookA cs d kvs) (hk : getK kvs (.s x) = none) {w : Nat} (hw : w < 5) : (KF TB (n + 5)).fnF 29 [d, .int (w : Nat), .str x] ⟨bs, cs⟩ = .ok (refD 2) ⟨bs, cs⟩ := by
  refine k_plain (new := []) ?_ rfl
  rw [List.append_nil, run_of (fd := ⟨3, 6, b__law_asked⟩) rfl rfl]
  obtain ⟨r, hi⟩ := ins_of_book h (cs.length :: bs)
  have hn : ∀ n bs, (KF TB (n + 1)).fnF 21 [d, .str x] ⟨bs, cs⟩ = .exc 2 ⟨bs, cs⟩ := fun n bs => f_needB h hk
  have hi' : ∀ bs, ∃ r, insOf ⟨bs, cs⟩ d = some (18, [(fRows, r)]) := fun bs => ins_of_book h bs
  have q : ∀ (f : Nat) (as : List D) (fd : FD), TB f = some fd → fd.np = as.length + 2 → (∃ rest, fd.body = .expr (.meth true 18 21 [110, 101, 101, 100] (.var 0) [.var 1]) :: rest) → ∀ bs, (KF TB (n + 4)).fnF f (d :: .str x :: as) ⟨bs, cs⟩ = .exc 2 ⟨bs, cs⟩ := fun f as fd hT hnp ⟨rest, hb⟩ bs => by
    refine k_exc (new := []) ?_
    rw [List.append_nil, run_of hT (by simp [hnp]), hb]
    obtain ⟨r', hi2⟩ := hi' (cs.length :: bs)
    simp [hi2, List.lookup, hn]
  have q0 := q 23 [] _ rfl rfl ⟨_, rfl⟩
  have q1 := q 24 [] _ rfl rfl ⟨_, rfl⟩
  have q2 := q 25 [] _ rfl rfl ⟨_, rfl⟩
  have q3 := q 26 [] _ rfl rfl ⟨_, rfl⟩
  have q4 := q 27 [.str tHand] _ rfl rfl ⟨_, rfl⟩
  match w, hw with
  | 0, _ => simp [b__law_asked, x_try, hi, List.lookup, q0, tryF_s, f_refusal]
  | 1, _ => simp [b__law_asked, x_try, hi, List.lookup, q1, tryF_s, f_refusal]
  | 2, _ => simp [b__law_asked, x_try, hi, List.lookup, q2, tryF_s, f_refusal]
  | 3, _ => simp [b__law_asked, x_try, hi, List.lookup, q3, tryF_s, f_refusal]
  | 4, _ => simp [b__law_asked, x_try, hi, List.lookup, q4, tryF_s, f_refusal]
  | w + 5, h => omega
end
structure Ent where
  x : Tx
  k : Kind
  raw : List Tx
structure Ent.ok (e : Ent) : Prop where
  ne : e.x ≠ [110, 111, 110, 101]
  sh : e.k.sh.ok
  hand : decide (tHand ∈ e.raw) = decide (tHand ∈ e.k.tags)
def kvsOf (es : List Ent) : List (Ky × D) := es.map fun e => (.s e.x, e.k.enc)
def someE (e : Ent) : D := someD e.x e.k.sh.enc e.k.most e.k.may e.k.heavy e.raw
def lvsOf (es : List Ent) : List (Ky × D) := es.map fun e => (.s e.x, someE e)
structure EsOk (es : List Ent) : Prop where
  ok : ∀ e ∈ es, e.ok
  nd : (es.map (·.x)).Nodup
theorem isSome_map {es : List Ent} {f : Ent → D} {x : Tx} : (getK (es.map fun e => (Ky.s e.x, f e)) (.s x)).isSome = decide (x ∈ es.map (·.x)) := by
  induction es with
  | nil => rfl
  | cons e es ih =>
    rw [List.map_cons, getK, List.find?_cons]
    by_cases h : e.x = x
    · have : decide (Ky.s e.x = Ky.s x) = true := decide_eq_true (by rw [h])
      simp [this, h]
    · have : decide (Ky.s e.x = Ky.s x) = false := decide_eq_false fun z => h (by injection z)
      rw [this]
      show (getK (es.map fun e => (Ky.s e.x, f e)) (.s x)).isSome = _
      rw [ih]
      have : ¬ x = e.x := fun z => h z.symm
      simp [this]
theorem getK_ent {es : List Ent} {f : Ent → D} (hn : (es.map (·.x)).Nodup) {e : Ent} (he : e ∈ es) : getK (es.map fun e => (Ky.s e.x, f e)) (.s e.x) = some (f e) := by
  refine getK_some ?_ (List.mem_map.mpr ⟨e, he, rfl⟩)
  rw [List.map_map]
  have : ((fun p : Ky × D => p.1) ∘ fun e : Ent => (Ky.s e.x, f e)) = (fun x => Ky.s x) ∘ fun e : Ent => e.x := rfl
  rw [this, ← List.map_map]
  exact nodup_map hn fun a _ b _ h => by injection h
def namesOf (es : List Ent) : List Tx := es.map (·.x)
def R10 (es : List Ent) : List CS := [⟨false, .ins 18 [(fRows, .rg 2)]⟩, ⟨false, .dct false (kvsOf es)⟩, ⟨false, .dct false (lvsOf es)⟩]
def st10 (N : Nat) (es : List Ent) : List CS := tw N :: R10 es
theorem R10_0 {es : List Ent} : (R10 es)[0]? = some ⟨false, .ins 18 [(fRows, .rg 2)]⟩ := rfl
theorem R10_1 {es : List Ent} : (R10 es)[1]? = some ⟨false, .dct false (kvsOf es)⟩ := rfl
theorem R10_2 {es : List Ent} : (R10 es)[2]? = some ⟨false, .dct false (lvsOf es)⟩ := rfl
theorem f_pickM {m n : Nat} {ns : List Int} {α : Type} {as : List α} {f : α → D} (hn : n < LIM) (h0 : 0 < as.length) (hp : plainD 8 (.lst (as.map f)) = true) : ∃ a ∈ as, ∀ bs rest, (KF TB (m + 4)).fnF 10 [.scr ns, .rg 0, .lst (as.map f)] ⟨bs, tw n :: rest⟩ = .ok (f a) ⟨bs, tw (n + 1) :: rest⟩ := by
  have hl : 0 < (as.map f).length := by rw [List.length_map]; exact h0
  have hd := drawN_lt ns n hl
  have hd' : drawN ns n (as.map f).length < as.length := by simpa using hd
  refine ⟨as[drawN ns n (as.map f).length], List.getElem_mem _, fun bs rest => ?_⟩
  rw [f_pick hn hl hp]
  congr 1
  exact List.getElem_map ..
def N9 : List Tx := [[97, 120], [98, 111, 119], [99, 111, 105, 110], [103, 101, 109], [97], [101, 105, 103, 104, 116, 97, 98, 99], [], [65, 120], [110, 105, 110, 101, 115, 105, 103, 110, 115]]
def T4 : List (List Tx) := [[], [tHand], [tHead, tHand, tHand], [[65]]]
def tt4 (t : List Tx) : List Tx := if t = [] then [] else if t = [tHand] then [tHand] else if t = [tHead, tHand, tHand] then [tHand, tHead] else [[65]]
theorem tt4_ok : ∀ t ∈ T4, ∀ s, callB s .setSorted [.lst (t.map .str)] = some (.lst ((tt4 t).map .str)) := by
  intro t ht s
  unfold T4 at ht
  simp only [List.mem_cons, List.not_mem_nil, or_false] at ht
  have key : ∀ (l ys : List Tx) (ks : List Ky), kysOf (l.map .str) = some ks → (ks.length ≤ 1000 ∧ (ks.all fun k => !k.t) = true) → (dedup ks).map kyD = ys.map .str → sortT ys = tt4 l → callB s .setSorted [.lst (l.map .str)] = some (.lst ((tt4 l).map .str)) := fun l ys ks h1 h2 h3 h4 => by
    show ((some (l.map D.str)).bind kysOf).bind (fun ks => if ks.length ≤ 1000 ∧ (ks.all fun k => !k.t) = true then (let ys := (dedup ks).map kyD; if canSort ys then some (D.lst (sortD ys)) else none) else none) = _
    rw [Option.bind_some, h1, Option.bind_some, if_pos h2]
    simp only [h3, canSort_str, if_true, sort_str, h4]
  rcases ht with rfl | rfl | rfl | rfl
  · exact key _ [] [] rfl (by decide) rfl (sortT_to (.refl _) (by decide))
  · exact key _ [tHand] [.s tHand] rfl (by decide) rfl (sortT_to (.refl _) (by decide))
  · refine key _ [tHead, tHand] [.s tHead, .s tHand, .s tHand] rfl (by decide) ?_ (sortT_to (.swap _ _ _) (by decide))
    rw [show dedup [Ky.s tHead, .s tHand, .s tHand] = [.s tHead, .s tHand] by decide]
    rfl
  · exact key _ [[65]] [.s [65]] rfl (by decide) rfl (sortT_to (.refl _) (by decide))
end Law

set_option Elab.async false
set_option linter.all false
set_option maxRecDepth 100000
set_option maxHeartbeats 2000000
set_option autoImplicit false
/-! P10e: the law of books, its loop. -/
namespace Law
open M M.Ev
def body10 : List DS := match b_law_2 with
  | _ :: _ :: _ :: .loop _ _ _ _ b :: _ => b
  | _ => []
theorem nm9 : ∀ x ∈ N9, nameOk x = !decide (x ∈ ([[], [65, 120], [110, 105, 110, 101, 115, 105, 103, 110, 115]] : List Tx)) := by decide
theorem nmN : ∀ x ∈ N9, x ≠ [110, 111, 110, 101] := by decide
theorem nmL : ∀ x ∈ N9, x.length ≤ 9 := by decide
theorem tgL : ∀ t ∈ T4, (∀ x ∈ t, x.length ≤ 9) ∧ decide (([65] : Tx) ∈ t) = !t.all nameOk := by decide
theorem tgH : ∀ t ∈ T4, t.all nameOk = true → decide (tHand ∈ t) = decide (tHand ∈ tt4 t) := by decide
theorem mo5 : ∀ m ∈ ([1, 5, 99, 0, 100] : List Int), ∀ h ∈ ([0, 7, 999, 7, -1, 1000] : List Int), (decide (m ∈ ([0, 100] : List Int)) || decide (h ∈ ([-1, 1000] : List Int))) = !decide (1 ≤ m ∧ m ≤ 99 ∧ 0 ≤ h ∧ h ≤ 999) := by decide
theorem rows_good {x : Sh} (g : x.ok) : decide (x.rows ∈ ([[], [[46, 46]]] : List (List Tx))) = false := by
  refine decide_eq_false fun h => ?_
  obtain ⟨c, hc, hp⟩ := g.top
  have h1 := g.h1
  have e0 : (x.rows)[0]? = some (grow x.w (x.p 0)) := grows_at (by omega)
  have e1 : (grow x.w (x.p 0))[c]? = some (sg (x.p 0 c)) := grow_at hc
  rw [hp] at e1
  rcases List.mem_cons.mp h with e | h
  · rw [e] at e0; cases e0
  · rw [List.mem_singleton.mp h] at e0
    have e2 : ([46, 46] : Tx) = grow x.w (x.p 0) := by simpa using e0
    rw [← e2] at e1
    have hmem := List.mem_of_getElem? e1
    simp [sg] at hmem
theorem plain5_enc {x : Sh} : plainD 5 x.enc = true := plains_map (fun a => rfl) _
theorem turn10 {ns : List Int} {N k : Nat} {es : List Ent} (hN : N + 60 < LIM) (hE : EsOk es) (hk : es.length ≤ k) (h13 : k < 13) {o5 o6 o7 o8 o9 o10 o11 : Option D} :
    ∃ (N' : Nat) (es' : List Ent) (p5 p6 p7 p8 p9 p10 p11 : Option D), N' ≤ N + 60 ∧ EsOk es' ∧ es'.length ≤ k + 1 ∧
      evSs (KF TB 5) body10 [some (.scr ns), some (.rg 0), some (.rg 1), some (.rg 3), some (.int (k : Nat)), o5, o6, o7, o8, o9, o10, o11, none, none, none, none] ⟨[], st10 N es⟩
        = .nx [some (.scr ns), some (.rg 0), some (.rg 1), some (.rg 3), some (.int (k : Nat)), p5, p6, p7, p8, p9, p10, p11, none, none, none, none] ⟨[], st10 N' es'⟩ := by
  have hL : 1000 < LIM := by decide
  obtain ⟨x, hx, q1⟩ := f_pickM (m := 1) (n := N) (ns := ns) (as := N9) (f := D.str) (by omega) (by decide) rfl
  have hs1 := fun rest => r_shape (f := 1) (n := N + 1) (m := 4) (ns := ns) (bs := []) (rest := rest) (by omega) (by decide) (by decide)
  have g1 : (drawnShape ns (N + 1) 4).ok := drawnShape_ok (by decide) (by decide)
  have t1 := town_le (ns := ns) (n := N + 1) (m := 4) (by decide) (by decide)
  generalize drawnShape ns (N + 1) 4 = x1 at *
  generalize drawnTown ns (N + 1) 4 = N1 at *
  have hs2 := fun rest => r_shape (f := 1) (n := N1) (m := 4) (ns := ns) (bs := []) (rest := rest) (by omega) (by decide) (by decide)
  have g2 : (drawnShape ns N1 4).ok := drawnShape_ok (by decide) (by decide)
  have t2 := town_le (ns := ns) (n := N1) (m := 4) (by decide) (by decide)
  generalize drawnShape ns N1 4 = x2 at *
  generalize drawnTown ns N1 4 = N2 at *
  obtain ⟨sd, hsd, q2⟩ := f_pickM (m := 1) (n := N2) (ns := ns) (as := [x1.enc, x2.enc, .tup [], .tup [.str [46, 46]]]) (f := id) (by omega) (by simp) (by
    have a1 := plain_mono (m := 7) (by decide) (plain5_enc (x := x1))
    have a2 := plain_mono (m := 7) (by decide) (plain5_enc (x := x2))
    simp [plainD, plainDs, a1, a2])
  obtain ⟨mo, hmo, q3⟩ := f_pickM (m := 1) (n := N2 + 1) (ns := ns) (as := [1, 5, 99, 0, 100]) (f := D.int) (by omega) (by decide) rfl
  obtain ⟨hv, hhv, q4⟩ := f_pickM (m := 1) (n := N2 + 2) (ns := ns) (as := [0, 7, 999, 7, -1, 1000]) (f := D.int) (by omega) (by decide) rfl
  obtain ⟨tg, htg, q5⟩ := f_pickM (m := 1) (n := N2 + 3) (ns := ns) (as := T4) (f := fun l : List Tx => D.lst (l.map .str)) (by omega) (by decide) rfl
  have q6 := fun rest => f_drawN (m := 2) (n := N2 + 4) (ns := ns) (many := 2) (bs := []) (rest := rest) (by omega) (by decide)
  have hsh : ∃ ok, ShArg sd ok ∧ plainD 5 sd = true ∧ (∃ rows : List Tx, sd = rowsD rows ∧ decide (rows ∈ ([[], [[46, 46]]] : List (List Tx))) = !ok) := by
    simp only [List.mem_cons, List.not_mem_nil, or_false] at hsd
    rcases hsd with rfl | rfl | rfl | rfl
    · exact ⟨true, .inl ⟨rfl, x1, g1, rfl⟩, plain5_enc, _, rfl, rows_good g1⟩
    · exact ⟨true, .inl ⟨rfl, x2, g2, rfl⟩, plain5_enc, _, rfl, rows_good g2⟩
    · exact ⟨false, .inr ⟨rfl, bad_all _ (by simp [badL])⟩, rfl, [], rfl, rfl⟩
    · refine ⟨false, .inr ⟨rfl, rfl, fun n s => ?_⟩, rfl, [[46, 46]], rfl, rfl⟩
      rw [run_of (fd := ⟨1, 5, b_look_shape⟩) rfl rfl]
      have e1 : ∀ s : S, subD s (.tup [.str [46, 46]]) (.int 0) = some (.str [46, 46]) := fun _ => rfl
      have e2 : ∀ s : S, subD s (.tup [.str [46, 46]]) (.int (-1)) = some (.str [46, 46]) := fun _ => rfl
      have e3 : ∀ s : S, callB s .len [.str [46, 46]] = some (.int 2) := fun s => rfl
      have e4 : ∀ s : S, callM s .join (.str []) [.tup [.str [46, 46]]] = .ok (.str [46, 46]) s := fun s => rfl
      have e5 : ∀ (s : S), cmpD s .inn (.str [46]) (.tup [.str [35], .str [46]]) = some true := fun _ => rfl
      have e7 : ∀ (s : S), cmpD s .inn (.str [35]) (.str [46, 46]) = some false := fun _ => rfl
      simp [b_look_shape, lc_nil, lc_cons, lcT_none, e1, e2, e3, e4, e5, e7, show 2 ≤ LIM by omega, show 1 ≤ LIM by omega]
  obtain ⟨ok, hsa, hp5, hrows⟩ := hsh
  have P : Pk x sd ok mo hv tg := ⟨nm9 x hx, hsa, hrows, mo5 mo hmo hv hhv, (tgL tg htg).2⟩
  generalize hm : decide (drawN ns (N2 + 4) 2 = 0) = may
  have hxl : x.length ≤ LIM := by have := nmL x hx; omega
  have htl : ∀ t ∈ tg, t.length ≤ LIM := fun t ht => by have := (tgL tg htg).1 t ht; omega
  have hkl : (kvsOf es).length = es.length := List.length_map _
  have same : (getK (kvsOf es) (.s x)).isSome = (getK (lvsOf es) (.s x)).isSome := by
    unfold kvsOf lvsOf
    rw [isSome_map (f := fun e => e.k.enc), isSome_map (f := someE)]
  have hdue : ∀ N, (KF TB 5).fnF 30 [.rg 3, someD x sd mo may hv tg] ⟨[], tw N :: R10 es⟩ = .ok (outD (addOut (kvsOf es) x ok mo hv tg)) ⟨[], tw N :: R10 es⟩ := fun N => f_due (n := 4) (bs := []) (cs := st10 N es) (may := may) (lv := .rg 3) P (fun bs => rfl) same (by omega)
  have htold := fun (N : Nat) => f_told2 (n := 2) (bs := []) (cs := st10 N es) (b := 1) (r := 2) (kvs := kvsOf es) (x := x) (sd := sd) (shOk := ok) (may := may) (most := mo) (heavy := hv) (tags := tg) (tt := tt4 tg) ⟨rfl, rfl⟩ (by simp [st10, R10]) hxl hsa hp5 htl (tt4_ok tg htg) (by omega)
  have q1' : (KF TB 5).fnF 10 [.scr ns, .rg 0, .lst [.str [97, 120], .str [98, 111, 119], .str [99, 111, 105, 110], .str [103, 101, 109], .str [97], .str [101, 105, 103, 104, 116, 97, 98, 99], .str [], .str [65, 120], .str [110, 105, 110, 101, 115, 105, 103, 110, 115]]] ⟨[], tw N :: R10 es⟩ = .ok (.str x) ⟨[], tw (N + 1) :: R10 es⟩ := q1 [] _
  have q2' : (KF TB 5).fnF 10 [.scr ns, .rg 0, .lst [x1.enc, x2.enc, .tup [], .tup [.str [46, 46]]]] ⟨[], tw N2 :: R10 es⟩ = .ok sd ⟨[], tw (N2 + 1) :: R10 es⟩ := q2 [] _
  have q3' : (KF TB 5).fnF 10 [.scr ns, .rg 0, .lst [.int 1, .int 5, .int 99, .int 0, .int 100]] ⟨[], tw (N2 + 1) :: R10 es⟩ = .ok (.int mo) ⟨[], tw (N2 + 1 + 1) :: R10 es⟩ := q3 [] _
  have q4' : (KF TB 5).fnF 10 [.scr ns, .rg 0, .lst [.int 0, .int 7, .int 999, .int 7, .int (-1), .int 1000]] ⟨[], tw (N2 + 2) :: R10 es⟩ = .ok (.int hv) ⟨[], tw (N2 + 2 + 1) :: R10 es⟩ := q4 [] _
  have q5' : (KF TB 5).fnF 10 [.scr ns, .rg 0, .lst [.lst [], .lst [.str tHand], .lst [.str tHead, .str tHand, .str tHand], .lst [.str [65]]]] ⟨[], tw (N2 + 3) :: R10 es⟩ = .ok (.lst (tg.map .str)) ⟨[], tw (N2 + 3 + 1) :: R10 es⟩ := q5 [] _
  have q6' : (KF TB 5).fnF 9 [.scr ns, .rg 0, .int 2] ⟨[], tw (N2 + 4) :: R10 es⟩ = .ok (.int (drawN ns (N2 + 4) 2 : Nat)) ⟨[], tw (N2 + 4 + 1) :: R10 es⟩ := q6 _
  have s1' : (KF TB 5).fnF 12 [.scr ns, .rg 0, .int 4] ⟨[], tw (N + 1) :: R10 es⟩ = .ok x1.enc ⟨[], tw N1 :: R10 es⟩ := hs1 _
  have s2' : (KF TB 5).fnF 12 [.scr ns, .rg 0, .int 4] ⟨[], tw N1 :: R10 es⟩ = .ok x2.enc ⟨[], tw N2 :: R10 es⟩ := hs2 _
  have pl : plainD 8 (outD (addOut (kvsOf es) x ok mo hv tg)) = true := by cases addOut (kvsOf es) x ok mo hv tg <;> rfl
  have ne : ∀ s : S, cmpD s .ne (outD (addOut (kvsOf es) x ok mo hv tg)) (outD (addOut (kvsOf es) x ok mo hv tg)) = some false := fun s => c_ne_self pl
  have hsome : D.tup [.str x, sd, .int mo, .bl may, .int hv, .lst (tg.map .str)] = someD x sd mo may hv tg := rfl
  have hnames : ∀ (N : Nat) (es : List Ent), es.length ≤ 1000 → (KF TB 5).fnF 22 [.rg 1] ⟨[], tw N :: R10 es⟩ = .ok (.lst ((sortT (namesOf es)).map .str)) ⟨[], tw N :: R10 es⟩ := fun N es h => by
    have e : (kvsOf es).map (fun p => kyD p.1) = (namesOf es).map .str := by unfold kvsOf namesOf; rw [List.map_map, List.map_map]; rfl
    exact f_names (n := 4) (bs := []) (cs := st10 N es) (kvs := kvsOf es) (BookC.a (b := 1) (r := 2) ⟨rfl, rfl⟩) (by rw [e]; exact canSort_str _) (by unfold kvsOf; rw [List.length_map]; exact h) (by rw [e, sort_str])
  have hlk : ∀ es : List Ent, (lvsOf es).map (fun p => kyD p.1) = (namesOf es).map .str := fun es => by unfold lvsOf namesOf; rw [List.map_map, List.map_map]; rfl
  have nes : ∀ (s : S) (l : List Tx), cmpD s .ne (.lst (l.map .str)) (.lst (l.map .str)) = some false := fun s l => c_ne_self (plains_map (fun a => rfl) _)
  cases ho : addOut (kvsOf es) x ok mo hv tg with
  | some c =>
    rw [ho] at htold hdue ne
    have htold' : ∀ N, (KF TB 5).fnF 28 [.rg 1, someD x sd mo may hv tg] ⟨[], tw N :: R10 es⟩ = .ok (outD (some c)) ⟨[], tw N :: R10 es⟩ := htold
    refine ⟨N2 + 5, es, some (.str x), some sd, some (.int mo), some (.int hv), some (.lst (tg.map .str)), some (someD x sd mo may hv tg), some (outD (some c)), by omega, hE, by omega, ?_⟩
    show evSs (KF TB 5) body10 _ ⟨[], tw N :: R10 es⟩ = .nx _ ⟨[], tw (N2 + 5) :: R10 es⟩
    have e9 : ∀ s : S, cmpD s .isN (outD (some c)) .non = some false := fun s => rfl
    simp [body10, b_law_2, q1', s1', s2', q2', q3', q4', q5', q6', hm, hsome, hdue, htold', ne, e9, R10_0, R10_1, R10_2, List.lookup, hnames _ es (by omega), keysOf, hlk, canSort_str, sort_str, show (namesOf es).length ≤ 1000 by (unfold namesOf; rw [List.length_map]; omega), nes, show 9 ≤ LIM by omega, show 4 ≤ LIM by omega, show 5 ≤ LIM by omega, show 6 ≤ LIM by omega, show 3 ≤ LIM by omega, show 1 ≤ LIM by omega]
  | none =>
    rw [ho] at htold hdue ne
    have hok : ok = true ∧ nameOk x = true ∧ tg.all nameOk = true ∧ (1 ≤ mo ∧ mo ≤ 99 ∧ 0 ≤ hv ∧ hv ≤ 999) ∧ getK (kvsOf es) (.s x) = none := by
      unfold addOut at ho
      split at ho
      · cases ho
      · rename_i a1
        split at ho
        · cases ho
        · rename_i a2
          split at ho
          · cases ho
          · rename_i a3
            split at ho
            · cases ho
            · rename_i a4
              split at ho
              · cases ho
              · rename_i a5
                refine ⟨by simpa using a3, by simpa using a1, by simpa using a5, Classical.not_not.mp a4, ?_⟩
                cases hg : getK (kvsOf es) (.s x) with
                | none => rfl
                | some v => exact absurd (.inl (by rw [hg]; rfl)) a2
    obtain ⟨rfl, hnm, htgo, ⟨m1, m2, m3, m4⟩, hnone⟩ := hok
    obtain ⟨-, sh, gsh, rfl⟩ : true = true ∧ ∃ x : Sh, x.ok ∧ sd = x.enc := hsa.elim id fun z => by cases z.1
    have hxn : x ∉ es.map (·.x) := fun z => by
      have := isSome_map (es := es) (f := fun e => e.k.enc) (x := x)
      rw [show (es.map fun e => (Ky.s e.x, e.k.enc)) = kvsOf es from rfl, hnone, decide_eq_true z] at this
      cases this
    let e0 : Ent := ⟨x, ⟨sh, mo.toNat, may, hv.toNat, tt4 tg⟩, tg⟩
    have c1 : ((mo.toNat : Nat) : Int) = mo := by omega
    have c2 : ((hv.toNat : Nat) : Int) = hv := by omega
    have k1 : putK (kvsOf es) (.s x) (.tup [sh.enc, .int mo, .bl may, .int hv, .tup ((tt4 tg).map .str)]) = kvsOf (es ++ [e0]) := by
      rw [putK_new]
      · unfold kvsOf
        rw [List.map_append]
        simp [e0, Kind.enc, c1, c2]
      · unfold kvsOf
        rw [List.map_map]
        intro z
        obtain ⟨e, he, q⟩ := List.mem_map.mp z
        injection q with q
        exact hxn (List.mem_map.mpr ⟨e, he, q⟩)
    have k2 : putK (lvsOf es) (.s x) (someD x sh.enc mo may hv tg) = lvsOf (es ++ [e0]) := by
      rw [putK_new]
      · unfold lvsOf
        rw [List.map_append]
        simp [e0, someE, c1, c2]
      · unfold lvsOf
        rw [List.map_map]
        intro z
        obtain ⟨e, he, q⟩ := List.mem_map.mp z
        injection q with q
        exact hxn (List.mem_map.mpr ⟨e, he, q⟩)
    have hE2 : EsOk (es ++ [e0]) := by
      refine ⟨fun e he => ?_, ?_⟩
      · rcases List.mem_append.mp he with he | he
        · exact hE.ok e he
        · rw [List.mem_singleton.mp he]
          exact ⟨nmN x hx, gsh, tgH tg htg htgo⟩
      · rw [List.map_append, List.nodup_append]
        refine ⟨hE.nd, by simp, fun a ha b hb => ?_⟩
        have hb : b = x := by simpa using hb
        rw [hb]
        exact fun z => hxn (z ▸ ha)
    have hl2 : (es ++ [e0]).length ≤ k + 1 := by rw [List.length_append]; simp; omega
    have htold' : ∀ N, (KF TB 5).fnF 28 [.rg 1, someD x sh.enc mo may hv tg] ⟨[], tw N :: R10 es⟩ = .ok .non ⟨[], tw N :: (R10 es).set 1 ⟨false, .dct false (kvsOf (es ++ [e0]))⟩⟩ := fun N => by rw [← k1]; exact htold N
    refine ⟨N2 + 5, es ++ [e0], some (.str x), some sh.enc, some (.int mo), some (.int hv), some (.lst (tg.map .str)), some (someD x sh.enc mo may hv tg), some .non, by omega, hE2, hl2, ?_⟩
    show evSs (KF TB 5) body10 _ ⟨[], tw N :: R10 es⟩ = .nx _ ⟨[], tw (N2 + 5) :: R10 (es ++ [e0])⟩
    have g1 : ((R10 es).set 1 ⟨false, .dct false (kvsOf (es ++ [e0]))⟩)[2]? = some ⟨false, .dct false (lvsOf es)⟩ := rfl
    have g2 : ((R10 es).set 1 ⟨false, .dct false (kvsOf (es ++ [e0]))⟩).set 2 ⟨false, .dct false (lvsOf (es ++ [e0]))⟩ = R10 (es ++ [e0]) := rfl
    have hmay : ∀ (s : List CS) (k : Nat) (d : D), mayPut ⟨[], s⟩ k d = true := fun _ _ _ => rfl
    have hll : (lvsOf es).length < LIM := by unfold lvsOf; rw [List.length_map]; omega
    have hset : ∀ (N : Nat) (e : M.Env), setIC (someD x sh.enc mo may hv tg) (.str x) e ⟨[], tw N :: (R10 es).set 1 ⟨false, .dct false (kvsOf (es ++ [e0]))⟩⟩ 3 (some ⟨false, .dct false (lvsOf es)⟩) = .nx e ⟨[], tw N :: R10 (es ++ [e0])⟩ := fun N e => by
      rw [setIC_dct key_s (hmay _ _ _) hll, k2]
      rfl
    have nenon : ∀ s : S, cmpD s .ne .non .non = some false := fun s => rfl
    have hout : outD none = .non := rfl
    rw [hout] at hdue
    simp [body10, b_law_2, q1', s1', s2', q2', q3', q4', q5', q6', hm, hsome, hdue, htold', nenon, R10_0, R10_1, R10_2, g1, hset, List.lookup, hnames _ (es ++ [e0]) (by omega), keysOf, hlk, canSort_str, sort_str, show (namesOf (es ++ [e0])).length ≤ 1000 by (unfold namesOf; rw [List.length_map]; omega), nes, show 9 ≤ LIM by omega, show 4 ≤ LIM by omega, show 5 ≤ LIM by omega, show 6 ≤ LIM by omega, show 3 ≤ LIM by omega, show 1 ≤ LIM by omega]
end Law

set_option Elab.async false
set_option linter.all false
set_option maxRecDepth 100000
set_option maxHeartbeats 2000000
set_option autoImplicit false
/-! P10f: the law of books, whole. -/
namespace Law
open M M.Ev
def env10 (ns : List Int) (o4 o5 o6 o7 o8 o9 o10 o11 o12 o13 o14 o15 : Option D) : M.Env := [some (.scr ns), some (.rg 0), some (.rg 1), some (.rg 3), o4, o5, o6, o7, o8, o9, o10, o11, o12, o13, o14, o15]
theorem loop10 (ns : List Int) (n : Nat) (hn : n ≤ 13) : ∃ (N : Nat) (es : List Ent) (o4 o5 o6 o7 o8 o9 o10 o11 : Option D), N ≤ 1 + 60 * n ∧ EsOk es ∧ es.length ≤ n ∧
    forL (loopT (KF TB 5) ⟨[4], false⟩ body10) ((List.range n).map fun i => .int (i : Nat)) (env10 ns none none none none none none none none none none none none) ⟨[], st10 1 []⟩ = .nx (env10 ns o4 o5 o6 o7 o8 o9 o10 o11 none none none none) ⟨[], st10 N es⟩ := by
  have hL : 2 ^ 20 < LIM := by decide
  have H : ∀ (i : Nat) (d : D) (e : M.Env) (s : S), ((List.range n).map fun i => D.int (i : Nat))[i]? = some d →
      (∃ (N : Nat) (es : List Ent) (o4 o5 o6 o7 o8 o9 o10 o11 : Option D), N ≤ 1 + 60 * i ∧ EsOk es ∧ es.length ≤ i ∧ e = env10 ns o4 o5 o6 o7 o8 o9 o10 o11 none none none none ∧ s = ⟨[], st10 N es⟩) →
      ∃ e' s', loopT (KF TB 5) ⟨[4], false⟩ body10 d e s = .nx e' s' ∧ ∃ (N : Nat) (es : List Ent) (o4 o5 o6 o7 o8 o9 o10 o11 : Option D), N ≤ 1 + 60 * (i + 1) ∧ EsOk es ∧ es.length ≤ i + 1 ∧ e' = env10 ns o4 o5 o6 o7 o8 o9 o10 o11 none none none none ∧ s' = ⟨[], st10 N es⟩ := by
    rintro i d e s hd ⟨N, es, o4, o5, o6, o7, o8, o9, o10, o11, h1, h2, h3, rfl, rfl⟩
    rw [List.getElem?_map] at hd
    have hi : i < n := by
      rcases Nat.lt_or_ge i n with h | h
      · exact h
      · rw [List.getElem?_eq_none (by simpa using h)] at hd; cases hd
    rw [List.getElem?_range hi] at hd
    cases hd
    obtain ⟨N', es', p5, p6, p7, p8, p9, p10, p11, a1, a2, a3, a4⟩ := turn10 (ns := ns) (N := N) (k := i) (es := es) (o5 := o5) (o6 := o6) (o7 := o7) (o8 := o8) (o9 := o9) (o10 := o10) (o11 := o11) (by omega) h2 h3 (by omega)
    refine ⟨_, _, ?_, N', es', some (.int (i : Nat)), p5, p6, p7, p8, p9, p10, p11, by omega, a2, a3, rfl, rfl⟩
    rw [loopT_def]
    simp [env10]
    exact a4
  obtain ⟨e', s', h, N, es, o4, o5, o6, o7, o8, o9, o10, o11, h1, h2, h3, rfl, rfl⟩ := forL_inv _ ⟨1, [], none, none, none, none, none, none, none, none, by omega, ⟨fun e h => (by cases h), .nil⟩, by simp, rfl, rfl⟩ H
  rw [List.length_map, List.length_range] at h1 h3
  exact ⟨N, es, o4, o5, o6, o7, o8, o9, o10, o11, h1, h2, h3, h⟩
def R10' (es : List Ent) : List CS := [⟨false, .ins 18 [(fRows, .rg 2)]⟩, ⟨false, .dct false (kvsOf es)⟩, ⟨true, .dct false (lvsOf es)⟩]
def body10b : List DS := match b_law_2 with
  | _ :: _ :: _ :: _ :: .loop _ _ _ _ b :: _ => b
  | _ => []
theorem turn10b {ns : List Int} {N : Nat} {es : List Ent} (hE : EsOk es) {e : Ent} (he : e ∈ es) {o4 o5 o6 o7 o8 o9 o10 o11 o12 o13 : Option D} :
    ∃ (p5 p6 p7 p8 p9 p12 p13 : Option D), loopT (KF TB 5) ⟨[5], false⟩ body10b (.str e.x) (env10 ns o4 o5 o6 o7 o8 o9 o10 o11 o12 o13 none none) ⟨[], tw N :: R10' es⟩ = .nx (env10 ns o4 p5 p6 p7 p8 p9 o10 o11 p12 p13 none none) ⟨[], tw N :: R10' es⟩ := by
  have hL : 2 ^ 20 < LIM := by decide
  obtain ⟨hne, gsh, hh⟩ := hE.ok e he
  have g1 : getK (lvsOf es) (.s e.x) = some (someE e) := getK_ent hE.nd he
  have g2 : getK (kvsOf es) (.s e.x) = some e.k.enc := getK_ent (f := fun e => e.k.enc) hE.nd he
  have d1 : ∀ bs, dctOf ⟨bs, tw N :: R10' es⟩ (.rg 3) = some (false, lvsOf es) := fun bs => rfl
  have hb : BookA (tw N :: R10' es) (.rg 1) (kvsOf es) := BookC.a (b := 1) (r := 2) ⟨rfl, rfl⟩
  have hs : ∀ s : S, slcD s (someE e) (some (.int 1)) none = some (.tup [e.k.sh.enc, .int (e.k.most : Nat), .bl e.k.may, .int (e.k.heavy : Nat), .lst (e.raw.map .str)]) := fun s => rfl
  have ht : evE (KF TB 5) (.ifx (.var 12) (.call true 15 [.var 6]) (.lst false [.con (.int 0)])) (env10 ns o4 (some (.str e.x)) (some e.k.sh.enc) (some (.int (e.k.most : Nat))) (some (.int (e.k.heavy : Nat))) (some (.lst (e.raw.map .str))) o10 o11 (some (.bl e.k.may)) o13 none none) ⟨[], tw N :: R10' es⟩ = .ok (.lst (e.k.turns.map natD)) ⟨[], tw N :: R10' es⟩ := by
    unfold Kind.turns
    cases hm : e.k.may with
    | true => simp [env10, f_lturns (n := 3) gsh, tof_lturns gsh]
    | false => simp [env10, show 1 ≤ LIM by omega]; rfl
  have hask := fun (w : Nat) (hw : w < 5) => f_asked (n := 0) (bs := []) hb gsh g2 hw
  have hin : ∀ s : S, cmpD s .inn (.str tHand) (.lst (e.raw.map .str)) = some (decide (tHand ∈ e.k.tags)) := fun s => by rw [← hh]; exact in_lst (f := D.str) (fun a => rfl) eq_str
  have hpl : plainD 8 (.lst [e.k.sh.enc, .int (e.k.most : Nat), .lst (e.k.turns.map natD), .int (e.k.heavy : Nat), .bl (decide (tHand ∈ e.k.tags))]) = true := by
    have a1 := plain_mono (m := 7) (by decide) (plain5_enc (x := e.k.sh))
    have a2 : plainDs 6 (e.k.turns.map natD) = true := plains_map (fun a => rfl) _
    simp [plainD, plainDs, a1, a2]
  have hne' : ∀ s : S, cmpD s .ne (.lst ((List.range 5).map (askD e.k))) (.lst [e.k.sh.enc, .int (e.k.most : Nat), .lst (e.k.turns.map natD), .int (e.k.heavy : Nat), .bl (decide (tHand ∈ e.k.tags))]) = some false := fun s => c_ne_self hpl
  refine ⟨some (.str e.x), some e.k.sh.enc, some (.int (e.k.most : Nat)), some (.int (e.k.heavy : Nat)), some (.lst (e.raw.map .str)), some (.bl e.k.may), some (.lst (e.k.turns.map natD)), ?_⟩
  unfold env10 at ht ⊢
  rw [loopT_def]
  simp only [body10b, b_law_2, x_ss_cons, x_set, bindT_one, List.length_cons, List.length_nil, Nat.reduceAdd, Nat.reduceLT, if_true, List.set_cons_succ, List.set_cons_zero, onEnv_some]
  simp only [x_setT, x_slc, x_sub, x_v, List.getElem?_cons_succ, List.getElem?_cons_zero, varR_some, bind_ok, sub_dct (d1 _) key_s, g1, optR_some, x_osome, x_con, intR_int, x_onone, hs, st_ok, onTup_tup]
  simp [ht]
  rw [show (5 : Int) = ((5 : Nat) : Int) from rfl, it_r1 (by decide), onIt_some, lcMap (f := askD e.k) (fun w hw => by simp [lcT_none, hask w (List.mem_range.mp hw)])]
  simp only [List.length_map, List.length_range, decide_eq_true (show 5 ≤ LIM by omega), ifR_t, noX_ok, bind_ok, ifR_f]
  simp only [x_lstV, x_cons, x_nil, x_cmp, x_con, x_v, List.getElem?_cons_succ, List.getElem?_cons_zero, varR_some, bind_ok, hin, Option.map_some, optR_some, List.length_cons, List.length_nil, Nat.reduceAdd, decide_eq_true (show 5 ≤ LIM by omega), ifR_t, hne', tru_ok', t_bl, st_ok, ifF_f, x_ss_nil, go_nx]
end Law

set_option Elab.async false
set_option linter.all false
set_option maxRecDepth 100000
set_option maxHeartbeats 2000000
set_option autoImplicit false
/-! P10g: the law of books: the second loop, the full book. -/
namespace Law
open M M.Ev
theorem loop10b {ns : List Int} {N : Nat} {es : List Ent} (hE : EsOk es) {o4 o5 o6 o7 o8 o9 o10 o11 : Option D} :
    ∃ (p5 p6 p7 p8 p9 p12 p13 : Option D), forL (loopT (KF TB 5) ⟨[5], false⟩ body10b) ((lvsOf es).map fun p => kyD p.1) (env10 ns o4 o5 o6 o7 o8 o9 o10 o11 none none none none) ⟨[], tw N :: R10' es⟩ = .nx (env10 ns o4 p5 p6 p7 p8 p9 o10 o11 p12 p13 none none) ⟨[], tw N :: R10' es⟩ := by
  have e : (lvsOf es).map (fun p => kyD p.1) = es.map fun e => D.str e.x := by unfold lvsOf; rw [List.map_map]; rfl
  rw [e]
  have H : ∀ (i : Nat) (d : D) (e : M.Env) (s : S), (es.map fun e => D.str e.x)[i]? = some d →
      (∃ (p5 p6 p7 p8 p9 p12 p13 : Option D), e = env10 ns o4 p5 p6 p7 p8 p9 o10 o11 p12 p13 none none ∧ s = ⟨[], tw N :: R10' es⟩) →
      ∃ e' s', loopT (KF TB 5) ⟨[5], false⟩ body10b d e s = .nx e' s' ∧ ∃ (p5 p6 p7 p8 p9 p12 p13 : Option D), e' = env10 ns o4 p5 p6 p7 p8 p9 o10 o11 p12 p13 none none ∧ s' = ⟨[], tw N :: R10' es⟩ := by
    rintro i d e s hd ⟨p5, p6, p7, p8, p9, p12, p13, rfl, rfl⟩
    rw [List.getElem?_map] at hd
    cases hg : es[i]? with
    | none => rw [hg] at hd; cases hd
    | some e =>
      rw [hg] at hd
      cases hd
      obtain ⟨q5, q6, q7, q8, q9, q12, q13, h⟩ := turn10b (ns := ns) (N := N) hE (List.mem_of_getElem? hg) (o4 := o4) (o5 := p5) (o6 := p6) (o7 := p7) (o8 := p8) (o9 := p9) (o10 := o10) (o11 := o11) (o12 := p12) (o13 := p13)
      exact ⟨_, _, h, q5, q6, q7, q8, q9, q12, q13, rfl, rfl⟩
  obtain ⟨e', s', h, p5, p6, p7, p8, p9, p12, p13, rfl, rfl⟩ := forL_inv _ ⟨o5, o6, o7, o8, o9, none, none, rfl, rfl⟩ H
  exact ⟨p5, p6, p7, p8, p9, p12, p13, h⟩
def nm (k : Nat) : Tx := [107, 97 + k / 10, 97 + k % 10]
def kv1 (k : Nat) : Ky × D := (.s (nm k), .tup [.tup [.str [35]], .int 1, .bl false, .int 0, .tup []])
def kvsF (k : Nat) : List (Ky × D) := (List.range k).map kv1
theorem nm_inj {j k : Nat} (hj : j < 30) (hk : k < 30) (h : nm j = nm k) : j = k := by
  unfold nm at h
  injection h with _ h
  injection h with h1 h
  injection h with h2 _
  omega
theorem nm_ok : ∀ k, k < 30 → nameOk (nm k) = true := by decide
theorem kvsF_none {k : Nat} (hk : k < 30) : Ky.s (nm k) ∉ (kvsF k).map (·.1) := by
  intro h
  rw [kvsF, List.map_map] at h
  obtain ⟨j, hj, e⟩ := List.mem_map.mp h
  have hj := List.mem_range.mp hj
  injection e with e
  have := nm_inj (by omega) hk e
  omega
theorem kvsF_len {k : Nat} : (kvsF k).length = k := by rw [kvsF, List.length_map, List.length_range]
theorem kvsF_succ {k : Nat} : kvsF (k + 1) = kvsF k ++ [kv1 k] := by rw [kvsF, List.range_succ, List.map_append]; rfl
def shU : Sh := ⟨1, 1, fun _ _ => true⟩
theorem shU_ok : shU.ok := ⟨by decide, by decide, by decide, by decide, ⟨0, by decide, rfl⟩, ⟨0, by decide, rfl⟩, ⟨0, by decide, rfl⟩, ⟨0, by decide, rfl⟩⟩
theorem shU_arg : ShArg (.tup [.str [35]]) true := .inl ⟨rfl, shU, shU_ok, rfl⟩
def stF (t : List CS) (k : Nat) : List CS := t ++ [⟨false, .ins 18 [(fRows, .rg (t.length + 1))]⟩, ⟨false, .dct false (kvsF k)⟩]
def bodyF : List DS := match b_law_2 with
  | _ :: _ :: _ :: _ :: _ :: _ :: _ :: .loop _ _ _ _ b :: _ => b
  | _ => []
theorem addF {kvs : List (Ky × D)} {x : Tx} (h1 : nameOk x = true) (h2 : getK kvs (.s x) = none) (h3 : kvs.length ≠ 30) : addOut kvs x true 1 0 [] = none := by
  unfold addOut
  rw [if_neg (by rw [h1]; simp), if_neg (by rw [h2]; simp [h3]), if_neg (by simp), if_neg (by omega), if_neg (by simp)]
theorem name_ev {K : Calls} {e : M.Env} {s : S} : ∀ {k : Nat}, k < 30 → e[4]? = some (some (.int (k : Nat))) → evE K (.bin .add (.bin .add (.con (.str [107])) (.sub (.con (.str [97, 98, 99, 100, 101, 102, 103, 104, 105, 106])) (.bin .fdiv (.var 4) (.con (.int 10))))) (.sub (.con (.str [97, 98, 99, 100, 101, 102, 103, 104, 105, 106])) (.bin .sub (.var 4) (.bin .mul (.bin .fdiv (.var 4) (.con (.int 10))) (.con (.int 10)))))) e s = .ok (.str (nm k)) s := by
  intro k hk he
  have q1 : ∀ (k : Nat), k < 30 → ∀ s, binD s .fdiv (.int (k : Nat)) (.int 10) = some (.int ((k / 10 : Nat))) := by
    intro k hk
    iterate 30 (rcases k with _ | k; · intro s; rfl)
    omega
  have q2 : ∀ (k : Nat), k < 30 → ∀ s, binD s .mul (.int ((k / 10 : Nat))) (.int 10) = some (.int ((k / 10 * 10 : Nat))) := by
    intro k hk
    iterate 30 (rcases k with _ | k; · intro s; rfl)
    omega
  have q3 : ∀ (k : Nat), k < 30 → ∀ s, binD s .sub (.int (k : Nat)) (.int ((k / 10 * 10 : Nat))) = some (.int ((k % 10 : Nat))) := by
    intro k hk
    iterate 30 (rcases k with _ | k; · intro s; rfl)
    omega
  have q4 : ∀ (k : Nat), k < 10 → ∀ s, subD s (.str [97, 98, 99, 100, 101, 102, 103, 104, 105, 106]) (.int (k : Nat)) = some (.str [97 + k]) := by
    intro k hk
    iterate 10 (rcases k with _ | k; · intro s; rfl)
    omega
  have q5 : ∀ (s : S) (a : Nat), binD s .add (.str [107]) (.str [a]) = some (.str [107, a]) := fun s a => rfl
  have q6 : ∀ (s : S) (a b : Nat), binD s .add (.str [107, a]) (.str [b]) = some (.str [107, a, b]) := fun s a b => rfl
  simp only [x_bin, x_sub, x_con, x_v, he, varR_some, bind_ok, q1 k hk, q2 k hk, q3 k hk, q4 (k / 10) (by omega), q4 (k % 10) (by omega), q5, q6, optR_some]
  rfl
theorem addF_step {t : List CS} {k : Nat} (hk : k < 30) {o5 o6 o7 o8 o9 o10 o11 o12 o13 o14 : Option D} {ns : List Int} {o4 : Option D} :
    loopT (KF TB 5) ⟨[4], false⟩ bodyF (.int (k : Nat)) (env10 ns o4 o5 o6 o7 o8 o9 o10 o11 o12 o13 o14 (some (.rg t.length))) ⟨[], stF t k⟩ = .nx (env10 ns (some (.int (k : Nat))) o5 o6 o7 o8 o9 o10 o11 o12 o13 o14 (some (.rg t.length))) ⟨[], stF t (k + 1)⟩ := by
  have hL : 1000 < LIM := by decide
  have hn := kvsF_none hk
  have hB : BookC (stF t k) t.length (t.length + 1) (kvsF k) := ⟨by simp [stF], by simp [stF]⟩
  have ha := f_add (n := 3) (bs := []) (may := false) (most := 1) (heavy := 0) (tags := []) (tt := []) hB (by simp [stF]) (x := nm k) (by show 3 ≤ LIM; omega) shU_arg rfl (by simp) (tt4_ok [] (by simp [T4])) (by rw [kvsF_len]; omega)
  rw [addF (nm_ok k hk) (getK_none hn) (by rw [kvsF_len]; omega)] at ha
  simp only at ha
  have e2 : (stF t k).set (t.length + 1) ⟨false, .dct false (putK (kvsF k) (.s (nm k)) (.tup [.tup [.str [35]], .int 1, .bl false, .int 0, .tup (([] : List Tx).map .str)]))⟩ = stF t (k + 1) := by
    rw [putK_new hn, stF, stF, kvsF_succ]
    simp [kv1]
  rw [e2] at ha
  have ha : (KF TB 5).fnF 20 [.rg t.length, .str (nm k), .tup [.str [35]], .int 1, .bl false, .int 0, .lst []] ⟨[], stF t k⟩ = .ok .non ⟨[], stF t (k + 1)⟩ := ha
  have hi : insOf ⟨[], stF t k⟩ (.rg t.length) = some (18, [(fRows, .rg (t.length + 1))]) := by rw [ins_rg, hB.1]; rfl
  rw [loopT_def]
  simp only [env10, List.length_cons, List.length_nil, Nat.reduceAdd, Nat.reduceLT, bindT_one, if_true, List.set_cons_succ, List.set_cons_zero, onEnv_some, bodyF, b_law_2]
  have hnm := fun s : S => name_ev (K := KF TB 5) (s := s) (e := [some (.scr ns), some (.rg 0), some (.rg 1), some (.rg 3), some (.int (k : Nat)), o5, o6, o7, o8, o9, o10, o11, o12, o13, o14, some (.rg t.length)]) hk rfl
  generalize DE.bin .add _ _ = E at hnm ⊢
  simp [hnm, hi, ha, List.lookup, show 1 ≤ LIM by omega]
theorem loopF {t : List CS} {o5 o6 o7 o8 o9 o10 o11 o12 o13 o14 : Option D} {ns : List Int} {o4 : Option D} :
    ∃ p4, forL (loopT (KF TB 5) ⟨[4], false⟩ bodyF) ((List.range 30).map fun i => .int (i : Nat)) (env10 ns o4 o5 o6 o7 o8 o9 o10 o11 o12 o13 o14 (some (.rg t.length))) ⟨[], stF t 0⟩ = .nx (env10 ns p4 o5 o6 o7 o8 o9 o10 o11 o12 o13 o14 (some (.rg t.length))) ⟨[], stF t 30⟩ := by
  refine ⟨_, forL_range (E := fun j => env10 ns (lv o4 (fun i => .int (i : Nat)) j) o5 o6 o7 o8 o9 o10 o11 o12 o13 o14 (some (.rg t.length))) (Sg := fun j => ⟨[], stF t j⟩) rfl rfl (fun j hj => ?_)⟩
  rw [lvS]
  exact addF_step hj
end Law

set_option Elab.async false
set_option linter.all false
set_option maxRecDepth 100000
set_option maxHeartbeats 2000000
set_option autoImplicit false
/-! P10h: the law of books. -/
namespace Law
open M M.Ev
def st0 : S := ⟨[], []⟩
theorem tail10 {ns : List Int} {N : Nat} {es : List Ent} (hE : EsOk es) {o4 o5 o6 o7 o8 o9 o10 o11 o12 o13 : Option D} {a b c d f : DS} {r : List DS} (hb : b_law_2 = a :: b :: c :: d :: f :: r) :
    ∃ s, retOf (evSs (KF TB 5) r (env10 ns o4 o5 o6 o7 o8 o9 o10 o11 o12 o13 none none) ⟨[], st10 N es⟩) = .ok (.bl true) s := by
  have hL : 1000 < LIM := by decide
  have hB : BookA (st10 N es) (.rg 1) (kvsOf es) := BookC.a (b := 1) (r := 2) ⟨rfl, rfl⟩
  have hnone : getK (kvsOf es) (.s [110, 111, 110, 101]) = none := getK_none fun z => by
    unfold kvsOf at z
    rw [List.map_map] at z
    obtain ⟨e, he, q⟩ := List.mem_map.mp z
    injection q with q
    exact (hE.ok e he).ne q
  have hask := fun (w : Nat) (hw : w < 5) => f_askedB (n := 0) (bs := []) hB hnone hw
  cases hb
  have mul5 : ∀ s : S, binD s .mul (.lst [refD 2]) (.int ((5 : Nat) : Int)) = some (.lst [refD 2, refD 2, refD 2, refD 2, refD 2]) := fun _ => rfl
  have ne5 : ∀ s : S, cmpD s .ne (.lst [refD 2, refD 2, refD 2, refD 2, refD 2]) (.lst [refD 2, refD 2, refD 2, refD 2, refD 2]) = some false := fun s => c_ne_self rfl
  have href : (D.tup [.str [114, 101, 102, 117, 115, 101, 100], .str [107, 105, 110, 100]]) = refD 2 := rfl
  obtain ⟨p4, hF⟩ := loopF (ns := ns) (t := st10 N es) (o4 := o4) (o5 := o5) (o6 := o6) (o7 := o7) (o8 := o8) (o9 := o9) (o10 := o10) (o11 := o11) (o12 := o12) (o13 := o13) (o14 := none)
  have hnew : ∀ e : M.Env, evE (KF TB 5) (.make 18 19 []) e ⟨[], st10 N es⟩ = .ok (.rg 4) ⟨[], stF (st10 N es) 0⟩ := fun e => by
    have := new_book (n := 4) (cs := st10 N es) (bs := []) (e := e) (by simp)
    exact this
  have hB2 : BookC (stF (st10 N es) 30) 4 5 (kvsF 30) := ⟨rfl, rfl⟩
  have ht := f_told2 (n := 2) (bs := []) (may := false) (most := 1) (heavy := 0) (tags := []) (tt := []) hB2 (by simp [stF, st10, R10]) (x := [109, 111, 114, 101]) (by show 4 ≤ LIM; omega) shU_arg rfl (by simp) (tt4_ok [] (by simp [T4])) (by rw [kvsF_len]; omega)
  have hout : addOut (kvsF 30) [109, 111, 114, 101] true 1 0 [] = some 2 := by
    unfold addOut
    rw [if_neg (by decide), if_pos (.inr kvsF_len)]
  rw [hout] at ht
  have ht : (KF TB 5).fnF 28 [.rg 4, .tup [.str [109, 111, 114, 101], .tup [.str [35]], .int 1, .bl false, .int 0, .lst []]] ⟨[], stF (st10 N es) 30⟩ = .ok (refD 2) ⟨[], stF (st10 N es) 30⟩ := ht
  have eq2 : ∀ s : S, cmpD s .eq (refD 2) (refD 2) = some true := fun s => c_eq_self rfl
  have hn := f_names (n := 4) (bs := []) (cs := stF (st10 N es) 30) (kvs := kvsF 30) (ns := sortT ((List.range 30).map nm)) hB2.a (by
    rw [show (kvsF 30).map (fun p => kyD p.1) = ((List.range 30).map nm).map .str by unfold kvsF; rw [List.map_map, List.map_map]; rfl]
    exact canSort_str _) (by rw [kvsF_len]; omega) (by
    rw [show (kvsF 30).map (fun p => kyD p.1) = ((List.range 30).map nm).map .str by unfold kvsF; rw [List.map_map, List.map_map]; rfl]
    exact sort_str _)
  have hlen : (sortT ((List.range 30).map nm)).length = 30 := by unfold sortT; rw [List.length_mergeSort, List.length_map, List.length_range]
  generalize sortT ((List.range 30).map nm) = nms at *
  have hl30 : ∀ s : S, callB s .len [.lst (nms.map .str)] = some (.int ((30 : Nat) : Int)) := fun s => by
    rw [l_lst, List.length_map, hlen]
  refine ⟨⟨[], stF (st10 N es) 30⟩, ?_⟩
  have hlm : ∀ n : Nat, n ≤ 6 → decide (n ≤ LIM) = true := fun n h => decide_eq_true (by omega)
  rw [x_ss_cons]
  simp [env10]
  rw [show (5 : Int) = ((5 : Nat) : Int) from rfl, it_r1 (by decide), onIt_some, lcMap (f := fun _ => refD 2) (fun t ht => by simp [lcT_none, hask t (List.mem_range.mp ht)])]
  rw [show (List.range 5).map (fun _ => refD 2) = [refD 2, refD 2, refD 2, refD 2, refD 2] from rfl]
  simp only [List.length_map, List.length_range, hlm 5 (by decide), ifR_t, noX_ok, bind_ok, ifR_f, x_bin, x_lstV, x_cons, x_tup, x_con, x_nil, List.length_cons, List.length_nil, hlm (0 + 1 + 1) (by decide), hlm (0 + 1) (by decide), href, mul5, optR_some, ne5, Option.map_some, tru_ok', t_bl, st_ok, ifF_f, go_nx, x_ss_nil]
  rw [x_ss_cons, x_set, hnew, st_ok]
  simp only [List.length_cons, List.length_nil, Nat.reduceAdd, Nat.reduceLT, decide_true, ifF_t, List.set_cons_succ, List.set_cons_zero, go_nx]
  rw [x_ss_cons, x_loop0, x_cons, x_con, bind_ok, x_nil, bind_ok, st_ok, show (30 : Int) = ((30 : Nat) : Int) from rfl, it_r1 (by decide), onIt_some]
  rw [show ([some (.scr ns), some (.rg 0), some (.rg 1), some (.rg 3), o4, o5, o6, o7, o8, o9, o10, o11, o12, o13, none, some (D.rg 4)] : M.Env) = env10 ns o4 o5 o6 o7 o8 o9 o10 o11 o12 o13 none (some (D.rg (st10 N es).length)) from rfl]
  have hF' := hF
  unfold bodyF b_law_2 at hF'
  simp only at hF'
  rw [hF', go_nx]
  have hi : insOf ⟨[], stF (st10 N es) 30⟩ (.rg 4) = some (18, [(fRows, .rg 5)]) := rfl
  have e30 : ∀ s : S, cmpD s .eq (.int ((30 : Nat) : Int)) (.int 30) = some true := fun s => rfl
  have ht2 : (KF TB 5).fnF 28 [.rg (st10 N es).length, .tup [.str [109, 111, 114, 101], .tup [.str [35]], .int 1, .bl false, .int 0, .lst []]] ⟨[], stF (st10 N es) 30⟩ = .ok (refD 2) ⟨[], stF (st10 N es) 30⟩ := ht
  have hi2 : insOf ⟨[], stF (st10 N es) 30⟩ (.rg (st10 N es).length) = some (18, [(fRows, .rg 5)]) := rfl
  have hn2 : (KF TB 5).fnF 22 [.rg (st10 N es).length] ⟨[], stF (st10 N es) 30⟩ = .ok (.lst (nms.map .str)) ⟨[], stF (st10 N es) 30⟩ := hn
  simp [env10, ht2, href, eq2, hi2, hn2, hlen, List.lookup, show 6 ≤ LIM by omega, show 2 ≤ LIM by omega, show 1 ≤ LIM by omega]
end Law

set_option Elab.async false
set_option linter.all false
set_option maxRecDepth 100000
set_option maxHeartbeats 2000000
set_option autoImplicit false
/-! P10i: the law of books. -/
namespace Law
open M M.Ev
theorem pure_k10 (ns : List Int) (_ : ns.length ≤ 63) : ∃ s, runF TB 6 31 [.scr ns] ⟨[], []⟩ = .ok (.bl true) s := by
  have hL : 2 ^ 20 < LIM := by decide
  rw [run_of (fd := ⟨1, 16, b_law_2⟩) rfl rfl]
  have hd : (KF TB 5).fnF 9 [.scr ns, .rg 0, .int 13] ⟨[], st10 0 []⟩ = .ok (.int (drawN ns 0 13 : Nat)) ⟨[], st10 1 []⟩ := f_drawN (m := 2) (n := 0) (ns := ns) (many := 13) (bs := []) (rest := R10 []) (by omega) (by decide)
  have hlt := drawN_lt ns 0 (many := 13) (by decide)
  obtain ⟨N, es, o4, o5, o6, o7, o8, o9, o10, o11, h1, hE, h3, h4⟩ := loop10 ns (drawN ns 0 13) (by omega)
  generalize drawN ns 0 13 = k at *
  obtain ⟨p5, p6, p7, p8, p9, p12, p13, h5⟩ := loop10b (ns := ns) (N := N) hE (o4 := o4) (o5 := o5) (o6 := o6) (o7 := o7) (o8 := o8) (o9 := o9) (o10 := o10) (o11 := o11)
  obtain ⟨sf, h6⟩ := tail10 (ns := ns) (N := N) hE (o4 := o4) (o5 := p5) (o6 := p6) (o7 := p7) (o8 := p8) (o9 := p9) (o10 := o10) (o11 := o11) (o12 := p12) (o13 := p13) rfl
  refine ⟨sf, ?_⟩
  rw [← h6]
  refine congrArg retOf ?_
  have hnew : ∀ e : M.Env, evE (KF TB 5) (.make 18 19 []) e ⟨[], [tw 0]⟩ = .ok (.rg 1) ⟨[], [tw 0, ⟨false, .ins 18 [(fRows, .rg 2)]⟩, ⟨false, .dct false []⟩]⟩ := fun e => new_book (n := 4) (cs := [tw 0]) (bs := []) (e := e) (by simp)
  have e1 : evSs (KF TB 5) b_law_2 ([some (.scr ns)] ++ List.replicate 15 none) ⟨[], []⟩ = evSs (KF TB 5) (b_law_2.drop 3) (env10 ns none none none none none none none none none none none none) ⟨[], st10 0 []⟩ := by
    rw [show b_law_2 = .set 1 (.lst true []) :: .set 2 (.make 18 19 []) :: .set 3 (.dct false [] []) :: b_law_2.drop 3 from rfl]
    generalize b_law_2.drop 3 = r
    rw [x_ss_cons, x_set]
    have : evE (KF TB 5) (.lst true []) ([some (.scr ns)] ++ List.replicate 15 none) ⟨[], []⟩ = .ok (.rg 0) ⟨[], [tw 0]⟩ := rfl
    rw [this, st_ok]
    simp only [List.length_append, List.length_replicate, List.length_cons, List.length_nil, Nat.reduceAdd, Nat.reduceLT, decide_true, ifF_t, go_nx]
    rw [x_ss_cons, x_set, hnew, st_ok]
    simp only [List.length_append, List.length_replicate, List.length_cons, List.length_nil, List.length_set, Nat.reduceAdd, Nat.reduceLT, decide_true, ifF_t, go_nx]
    rw [x_ss_cons, x_set]
    have h3 : ∀ e, evE (KF TB 5) (.dct false [] []) e ⟨[], [tw 0, ⟨false, .ins 18 [(fRows, .rg 2)]⟩, ⟨false, .dct false []⟩]⟩ = .ok (.rg 3) ⟨[], st10 0 []⟩ := fun e => by
      simp [newCell]; rfl
    rw [h3, st_ok]
    simp only [List.length_append, List.length_replicate, List.length_cons, List.length_nil, List.length_set, Nat.reduceAdd, Nat.reduceLT, decide_true, ifF_t, go_nx]
    rfl
  refine Eq.trans e1 ?_
  have e2 : ∀ s : S, evEs (KF TB 5) [.call true 9 [.var 0, .var 1, .con (.int 13)]] (env10 ns none none none none none none none none none none none none) ⟨[], st10 0 []⟩ = .ok [.int (k : Nat)] ⟨[], st10 1 []⟩ := fun s => by
    rw [x_cons, x_call]
    simp only [x_cons, x_v, x_con, x_nil, env10, List.getElem?_cons_succ, List.getElem?_cons_zero, varR_some, bind_ok, go_true]
    rw [hd, bind_ok]; rfl
  have hr : b_law_2.drop 3 = .loop false ⟨[4], false⟩ .rng1 [.call true 9 [.var 0, .var 1, .con (.int 13)]] body10 :: .loop true ⟨[5], false⟩ .keys [.var 3] body10b :: b_law_2.drop 5 := rfl
  rw [hr, x_ss_cons, x_loop0, e2 ⟨[], []⟩, st_ok, it_r1 (by omega), onIt_some, h4, go_nx]
  have hk : ∀ s : S, evEs (KF TB 5) [.var 3] (env10 ns o4 o5 o6 o7 o8 o9 o10 o11 none none none none) s = .ok [.rg 3] s := fun s => rfl
  rw [x_ss_cons, loop_keys (n := 3) (kvs := lvsOf es) hk rfl]
  have hlk : lockAt ⟨[], st10 N es⟩ 3 true = ⟨[], tw N :: R10' es⟩ := rfl
  have hul : lockAt ⟨[], tw N :: R10' es⟩ 3 false = ⟨[], st10 N es⟩ := rfl
  rw [hlk, h5, unlockF_nx, hul, go_nx]
  rfl
end Law

set_option Elab.async false
set_option linter.all false
set_option maxRecDepth 100000
set_option maxHeartbeats 400000
set_option autoImplicit false
/-! S1: how data and cells stand for values and heaps; what is kept; the readings of the small language. -/
namespace MS
open PySem L2 M
/-! how R's runs unfold, for simp -/
@[simp] theorem bind_def {α β : Type} {x : M.R α} {f : α → M.S → M.R β} : x.bind f = match x with
  | .ok a s => f a s
  | .exc c s => .exc c s
  | .bad => .bad := rfl
@[simp] theorem st_def {α : Type} {x : M.R α} {env : M.Env} {f : α → M.S → M.F} : x.st env f = match x with
  | .ok a s => f a s
  | .exc c s => .exc c env s
  | .bad => .bad := rfl
@[simp] theorem optR_some {α : Type} {a : α} {s : M.S} : optR (some a) s = .ok a s := rfl
@[simp] theorem optR_none {α : Type} {s : M.S} : optR (none : Option α) s = .bad := rfl

def tx (x : Tx) : Str := ⟨x.toArray⟩
def okT (x : Tx) : Bool := x.all fun c => decide (c < 1114112)
def kyOk : Ky → Bool
  | .i _ => true
  | .s x => okT x
  | .p l => l.all fun k => match k with | .inl _ => true | .inr x => okT x
def keyK : Ky → Key
  | .i n => .inl n
  | .s x => .inr (tx x)
  | .p _ => .inl 0
def atomKey : Sum Int Tx → Key
  | .inl n => .inl n
  | .inr x => .inr (tx x)
def keyT : Ky → List Key
  | .p l => l.map atomKey
  | _ => []
/-- what stands fast through a law's run: the written part, the classes' places -/
structure G0 where
  K : PySem.W.Frag
  cA : Nat → Addr
  fA : Nat → Addr
structure Wd where
  φ : List Addr
  Z : Addr → Prop
  P : Addr → Prop
abbrev Wd.addZ (W : Wd) (p : Addr) : Wd := { W with Z := fun a => W.Z a ∨ a = p }
abbrev Wd.addC (W : Wd) (p : Addr) : Wd := { W with φ := W.φ ++ [p] }
abbrev Wd.addP (W : Wd) (p : Addr) : Wd := { W with P := fun a => W.P a ∨ a = p }
/-- a caught error of the class at C -/
def ExcO (C a : Addr) : HO := .ext fun h => ∃ oe vs, h.get? a = some oe ∧ oe.cls = .ref C ∧ oe.dict = none ∧ oe.data = .fields vs
mutual
inductive VR (G : G0) (W : Wd) (H : Hp) : V → D → Prop where
  | non : VR G W H .non .non
  | bl (b : Bool) : VR G W H (.bl b) (.bl b)
  | int (i : Int) : VR G W H (.int i) (.int i)
  | str (x : Tx) : okT x = true → VR G W H (.str (tx x)) (.str x)
  | tup {a : Addr} {vs : List V} {ds : List D} : H a = some (.tup vs) → VRs G W H vs ds → VR G W H (.ref a) (.tup ds)
  | lst {a : Addr} {vs : List V} {ds : List D} : W.Z a → Rd H a (.lst vs) → VRs G W H vs ds → VR G W H (.ref a) (.lst ds)
  | scr {a : Addr} {ns : List Int} : ((W.Z a ∧ SqL G.K H a (ns.map V.int)) ∨ SqL G.K (fun _ => none) a (ns.map V.int)) → VR G W H (.ref a) (.scr ns)
  | dK {a : Addr} {kvs : List (Key × V)} {ks : List Ky} {ds : List D} : W.Z a → Rd H a (.dK kvs) → (∀ k ∈ ks, k.t = false ∧ kyOk k = true) → kvs.map (·.1) = ks.map keyK → VRs G W H (kvs.map (·.2)) ds → VR G W H (.ref a) (.dct false ks ds)
  | dT {a : Addr} {kvs : List (List Key × V)} {ks : List Ky} {ds : List D} : W.Z a → Rd H a (.dT kvs) → (∀ k ∈ ks, k.t = true ∧ kyOk k = true) → kvs.map (·.1) = ks.map keyT → VRs G W H (kvs.map (·.2)) ds → VR G W H (.ref a) (.dct true ks ds)
  | ins {a dx : Addr} {fs : List (Str × V)} {c : Nat} {ns : List Tx} {ds : List D} : W.Z a → H a = some (.ins (G.cA c) dx fs) → fs.map (·.1) = ns.map tx → VRs G W H (fs.map (·.2)) ds → VR G W H (.ref a) (.ins c ns ds)
  | rg {a : Addr} {n : Nat} : W.φ[n]? = some a → VR G W H (.ref a) (.rg n)
  | exc {a : Addr} {c : Nat} : W.Z a → H a = some (ExcO (G.cA c) a) → VR G W H (.ref a) (.exc c)
inductive VRs (G : G0) (W : Wd) (H : Hp) : List V → List D → Prop where
  | nil : VRs G W H [] []
  | cons {v : V} {vs : List V} {d : D} {ds : List D} : VR G W H v d → VRs G W H vs ds → VRs G W H (v :: vs) (d :: ds)
end
structure Ext (W W' : Wd) : Prop where
  p : ∃ t, W'.φ = W.φ ++ t
  z : ∀ a, W.Z a → W'.Z a
  q : ∀ a, W.P a → W'.P a
def canLock : HO → Prop
  | .lst _ => True
  | .dK _ => True
  | .dT _ => True
  | _ => False
/-- what data by value lean on -/
structure Keep0 (W : Wd) (H H' : Hp) : Prop where
  tup : ∀ a xs, H a = some (.tup xs) → H' a = some (.tup xs)
  z : ∀ a u, W.Z a → canLock u → Rd H a u → Rd H' a u
  zi : ∀ a C dx fs, W.Z a → H a = some (.ins C dx fs) → H' a = some (.ins C dx fs)
  ze : ∀ a p, W.Z a → H a = some (.ext p) → H' a = some (.ext p)
structure Keeps (W : Wd) (H H' : Hp) : Prop extends Keep0 W H H' where
  frz : ∀ a o u, H a = some (.frz o u) → H' a = some (.frz o u)
  pin : ∀ a u, W.P a → H a = some u → H' a = some u
instance {W : Wd} {H H' : Hp} : Coe (Keeps W H H') (Keep0 W H H') := ⟨Keeps.toKeep0⟩
theorem Ext.refl (W : Wd) : Ext W W := ⟨⟨[], (List.append_nil _).symm⟩, fun _ h => h, fun _ h => h⟩
theorem Ext.trans {W W1 W2 : Wd} (a : Ext W W1) (b : Ext W1 W2) : Ext W W2 := by
  obtain ⟨t, e⟩ := a.p
  obtain ⟨u, e'⟩ := b.p
  exact ⟨⟨t ++ u, by rw [e', e, List.append_assoc]⟩, fun x h => b.z x (a.z x h), fun x h => b.q x (a.q x h)⟩
theorem Ext.at {W W' : Wd} (e : Ext W W') {n : Nat} {a : Addr} (h : W.φ[n]? = some a) : W'.φ[n]? = some a := by
  obtain ⟨t, q⟩ := e.p
  rw [q, List.getElem?_append_left (List.getElem?_eq_some_iff.mp h).1]
  exact h
/-- all that stood stands -/
theorem Keeps.same {W : Wd} {H H' : Hp} (h : ∀ a u, H a = some u → H' a = some u) : Keeps W H H' :=
  { tup := fun a xs e => h a _ e, z := fun a u _ _ e => e.elim (fun e => .inl (h a _ e)) fun ⟨o, e⟩ => .inr ⟨o, h a _ e⟩, zi := fun a _ _ _ _ e => h a _ e, ze := fun a _ _ e => h a _ e, frz := fun a _ _ e => h a _ e, pin := fun a _ _ e => h a _ e }
theorem Keeps.refl (W : Wd) (H : Hp) : Keeps W H H := Keeps.same fun _ _ h => h
theorem Keep0.refl (W : Wd) (H : Hp) : Keep0 W H H := (Keeps.refl W H).toKeep0
theorem Keeps.trans {W W1 : Wd} {H H1 H2 : Hp} (a : Keeps W H H1) (e : Ext W W1) (b : Keeps W1 H1 H2) : Keeps W H H2 :=
  { tup := fun x xs h => b.tup x xs (a.tup x xs h), frz := fun x o u h => b.frz x o u (a.frz x o u h), z := fun x u hz c h => b.z x u (e.z x hz) c (a.z x u hz c h), zi := fun x _ _ _ hz h => b.zi x _ _ _ (e.z x hz) (a.zi x _ _ _ hz h), ze := fun x _ hz h => b.ze x _ (e.z x hz) (a.ze x _ hz h), pin := fun x u hp h => b.pin x u (e.q x hp) (a.pin x u hp h) }
theorem Keep0.sqL {W : Wd} {H H' : Hp} (k : Keep0 W H H') {K : PySem.W.Frag} {a : Addr} {xs : List V} (hz : W.Z a) (h : SqL K H a xs) : SqL K H' a xs := by
  rcases h with h | h
  · exact .inl (k.z a _ hz trivial h)
  · exact .inr h
theorem scr_sq {K : PySem.W.Frag} {Z : Prop} {H : Hp} {a : Addr} {xs : List V} (h : (Z ∧ SqL K H a xs) ∨ SqL K (fun _ => none) a xs) : SqL K H a xs := by
  rcases h with ⟨_, h⟩ | h
  · exact h
  · rcases h with (h | ⟨_, h⟩) | h
    · cases h
    · cases h
    · exact .inr h
section
variable {G : G0} {W W' : Wd} {H H' : Hp}
mutual
theorem VR.mono (e : Ext W W') (k : Keep0 W H H') : ∀ {v : V} {d : D}, VR G W H v d → VR G W' H' v d
  | _, _, .non => .non
  | _, _, .bl b => .bl b
  | _, _, .int i => .int i
  | _, _, .str x h => .str x h
  | _, _, .tup h r => .tup (k.tup _ _ h) (VRs.mono e k r)
  | _, _, .lst z h r => .lst (e.z _ z) (k.z _ _ z trivial h) (VRs.mono e k r)
  | _, _, .scr h => .scr (h.imp (fun h => ⟨e.z _ h.1, k.sqL h.1 h.2⟩) id)
  | _, _, .dK z h t q r => .dK (e.z _ z) (k.z _ _ z trivial h) t q (VRs.mono e k r)
  | _, _, .dT z h t q r => .dT (e.z _ z) (k.z _ _ z trivial h) t q (VRs.mono e k r)
  | _, _, .ins z h q r => .ins (e.z _ z) (k.zi _ _ _ _ z h) q (VRs.mono e k r)
  | _, _, .rg h => .rg (e.at h)
  | _, _, .exc z h => .exc (e.z _ z) (k.ze _ _ z h)
theorem VRs.mono (e : Ext W W') (k : Keep0 W H H') : ∀ {vs : List V} {ds : List D}, VRs G W H vs ds → VRs G W' H' vs ds
  | _, _, .nil => .nil
  | _, _, .cons r t => .cons (VR.mono e k r) (VRs.mono e k t)
end
mutual
theorem VR.unP {P : Addr → Prop} : ∀ {v : V} {d : D}, VR G W H v d → VR G { W with P := P } H v d
  | _, _, .non => .non
  | _, _, .bl b => .bl b
  | _, _, .int i => .int i
  | _, _, .str x h => .str x h
  | _, _, .tup h r => .tup h (VRs.unP r)
  | _, _, .lst z h r => .lst z h (VRs.unP r)
  | _, _, .scr h => .scr h
  | _, _, .dK z h t q r => .dK z h t q (VRs.unP r)
  | _, _, .dT z h t q r => .dT z h t q (VRs.unP r)
  | _, _, .ins z h q r => .ins z h q (VRs.unP r)
  | _, _, .rg h => .rg h
  | _, _, .exc z h => .exc z h
theorem VRs.unP {P : Addr → Prop} : ∀ {vs : List V} {ds : List D}, VRs G W H vs ds → VRs G { W with P := P } H vs ds
  | _, _, .nil => .nil
  | _, _, .cons r t => .cons (VR.unP r) (VRs.unP t)
end
theorem VRs.length : ∀ {vs : List V} {ds : List D}, VRs G W H vs ds → vs.length = ds.length
  | _, _, .nil => rfl
  | _, _, .cons _ t => congrArg (· + 1) (VRs.length t)
theorem VRs.append : ∀ {vs ws : List V} {ds es : List D}, VRs G W H vs ds → VRs G W H ws es → VRs G W H (vs ++ ws) (ds ++ es)
  | _, _, _, _, .nil, s => s
  | _, _, _, _, .cons r t, s => .cons r (VRs.append t s)
theorem VRs.get : ∀ {vs : List V} {ds : List D} {i : Nat} {d : D}, VRs G W H vs ds → ds[i]? = some d → ∃ v, vs[i]? = some v ∧ VR G W H v d
  | _, _, i, d, .nil, h => by simp at h
  | _, _, 0, d, .cons r _, h => by simp at h; subst h; exact ⟨_, rfl, r⟩
  | _, _, i + 1, d, .cons _ t, h => by
    obtain ⟨v, h1, h2⟩ := VRs.get (i := i) (d := d) t (by simpa using h)
    exact ⟨v, by simpa using h1, h2⟩
theorem VRs.get' : ∀ {vs : List V} {ds : List D} {i : Nat} {v : V}, VRs G W H vs ds → vs[i]? = some v → ∃ d, ds[i]? = some d ∧ VR G W H v d
  | _, _, i, d, .nil, h => by simp at h
  | _, _, 0, d, .cons r _, h => by simp at h; subst h; exact ⟨_, rfl, r⟩
  | _, _, i + 1, d, .cons _ t, h => by
    obtain ⟨v, h1, h2⟩ := VRs.get' (i := i) (v := d) t (by simpa using h)
    exact ⟨v, by simpa using h1, h2⟩
theorem VRs.of_get : ∀ {vs : List V} {ds : List D}, vs.length = ds.length → (∀ (i : Nat) v d, vs[i]? = some v → ds[i]? = some d → VR G W H v d) → VRs G W H vs ds
  | [], [], _, _ => .nil
  | [], _ :: _, h, _ => by simp at h
  | _ :: _, [], h, _ => by simp at h
  | v :: vs, d :: ds, h, f => .cons (f 0 v d rfl rfl) (VRs.of_get (by simpa using h) fun i x y hx hy => f (i + 1) x y (by simpa using hx) (by simpa using hy))
theorem VRs.take {vs : List V} {ds : List D} (r : VRs G W H vs ds) (n : Nat) : VRs G W H (vs.take n) (ds.take n) := by
  induction n generalizing vs ds with
  | zero => exact .nil
  | succ n ih => cases r with
    | nil => exact .nil
    | cons r t => exact .cons r (ih t)
theorem VRs.drop {vs : List V} {ds : List D} (r : VRs G W H vs ds) (n : Nat) : VRs G W H (vs.drop n) (ds.drop n) := by
  induction n generalizing vs ds with
  | zero => exact r
  | succ n ih => cases r with
    | nil => exact .nil
    | cons r t => exact ih t
theorem VRs.reverse : ∀ {vs : List V} {ds : List D}, VRs G W H vs ds → VRs G W H vs.reverse ds.reverse
  | _, _, .nil => .nil
  | _, _, .cons r t => by rw [List.reverse_cons, List.reverse_cons]; exact (VRs.reverse t).append (.cons r .nil)
theorem VRs.set {vs : List V} {ds : List D} (r : VRs G W H vs ds) {v : V} {d : D} (q : VR G W H v d) (n : Nat) : VRs G W H (vs.set n v) (ds.set n d) := by
  induction n generalizing vs ds with
  | zero => cases r with
    | nil => exact .nil
    | cons _ t => exact .cons q t
  | succ n ih => cases r with
    | nil => exact .nil
    | cons r t => exact .cons r (ih t)
theorem VRs.snoc {vs : List V} {ds : List D} (r : VRs G W H vs ds) {v : V} {d : D} (q : VR G W H v d) : VRs G W H (vs ++ [v]) (ds ++ [d]) := r.append (.cons q .nil)
end
/-- an instance's attributes, a dict's entries -/
def FR (G : G0) (W : Wd) (H : Hp) (fs : List (Str × V)) (gs : List (Tx × D)) : Prop := fs.map (·.1) = gs.map (fun p => tx p.1) ∧ VRs G W H (fs.map (·.2)) (gs.map (·.2))
def KR (G : G0) (W : Wd) (H : Hp) (kvs : List (Key × V)) (gs : List (Ky × D)) : Prop := (∀ p ∈ gs, p.1.t = false ∧ kyOk p.1 = true) ∧ kvs.map (·.1) = gs.map (fun p => keyK p.1) ∧ VRs G W H (kvs.map (·.2)) (gs.map (·.2))
def TR (G : G0) (W : Wd) (H : Hp) (kvs : List (List Key × V)) (gs : List (Ky × D)) : Prop := (∀ p ∈ gs, p.1.t = true ∧ kyOk p.1 = true) ∧ kvs.map (·.1) = gs.map (fun p => keyT p.1) ∧ VRs G W H (kvs.map (·.2)) (gs.map (·.2))
inductive HoR (G : G0) (W : Wd) (H : Hp) : HO → Cell → Prop where
  | lst {vs : List V} {ds : List D} : VRs G W H vs ds → HoR G W H (.lst vs) (.lst ds)
  | dK {kvs : List (Key × V)} {gs : List (Ky × D)} : KR G W H kvs gs → HoR G W H (.dK kvs) (.dct false gs)
  | dT {kvs : List (List Key × V)} {gs : List (Ky × D)} : TR G W H kvs gs → HoR G W H (.dT kvs) (.dct true gs)
  | ins {c : Nat} {dx : Addr} {fs : List (Str × V)} {gs : List (Tx × D)} : FR G W H fs gs → HoR G W H (.ins (G.cA c) dx fs) (.ins c gs)
def CellR (G : G0) (W : Wd) (H : Hp) (a : Addr) (x : CS) : Prop := ∃ u, HoR G W H u x.c ∧ (x.lk = false → H a = some u) ∧ (x.lk = true → ∃ o, H a = some (.frz o u))
def Wd.low (W : Wd) (b : Nat) : Wd := { W with φ := W.φ.take b }
structure Rel (G : G0) (W : Wd) (s : S) (H : Hp) : Prop where
  len : W.φ.length = s.cs.length
  nd : W.φ.Nodup
  cell : ∀ (n : Nat) (a : Addr) (x : CS), W.φ[n]? = some a → s.cs[n]? = some x → CellR G W H a x
  low : ∀ b ∈ s.bs, ∀ (n : Nat) (a : Addr) (x : CS), n < b → W.φ[n]? = some a → s.cs[n]? = some x → CellR G (W.low b) H a x
  bsz : ∀ b ∈ s.bs, b ≤ s.cs.length
  sep : ∀ a ∈ W.φ, ¬ W.Z a
  zok : ∀ a, W.Z a → H a ≠ none
  sepP : ∀ a ∈ W.φ, ¬ W.P a
  pok : ∀ a, W.P a → H a ≠ none
  sepZ : ∀ a, W.P a → ¬ W.Z a
structure EnvR (G : G0) (W : Wd) (H : Hp) (σ : L2.St) (e : M.Env) : Prop where
  len : σ.length = e.length
  at_ : ∀ (i : Nat) (d : D), e[i]? = some (some d) → ∃ v, σ[i]? = some (some v) ∧ VR G W H v d
section
variable {G : G0} {W W' W1 : Wd} {H H' H1 : Hp} {s s' : S}
theorem FR.mono (e : Ext W W') (k : Keep0 W H H') {fs : List (Str × V)} {gs : List (Tx × D)} (h : FR G W H fs gs) : FR G W' H' fs gs := ⟨h.1, h.2.mono e k⟩
theorem KR.mono (e : Ext W W') (k : Keep0 W H H') {fs : List (Key × V)} {gs : List (Ky × D)} (h : KR G W H fs gs) : KR G W' H' fs gs := ⟨h.1, h.2.1, h.2.2.mono e k⟩
theorem TR.mono (e : Ext W W') (k : Keep0 W H H') {fs : List (List Key × V)} {gs : List (Ky × D)} (h : TR G W H fs gs) : TR G W' H' fs gs := ⟨h.1, h.2.1, h.2.2.mono e k⟩
theorem HoR.mono (e : Ext W W') (k : Keep0 W H H') {u : HO} {c : Cell} (h : HoR G W H u c) : HoR G W' H' u c := by
  cases h with
  | lst h => exact .lst (VRs.mono e k h)
  | dK h => exact .dK (KR.mono e k h)
  | dT h => exact .dT (TR.mono e k h)
  | ins h => exact .ins (FR.mono e k h)
theorem HoR.unP {P : Addr → Prop} {u : HO} {c : Cell} (h : HoR G W H u c) : HoR G { W with P := P } H u c := by
  cases h with
  | lst h => exact .lst h.unP
  | dK h => exact .dK ⟨h.1, h.2.1, h.2.2.unP⟩
  | dT h => exact .dT ⟨h.1, h.2.1, h.2.2.unP⟩
  | ins h => exact .ins ⟨h.1, h.2.unP⟩
theorem EnvR.mono (e : Ext W W') (k : Keep0 W H H') {σ : L2.St} {env : M.Env} (h : EnvR G W H σ env) : EnvR G W' H' σ env :=
  ⟨h.len, fun i d q => let ⟨v, h1, h2⟩ := h.at_ i d q; ⟨v, h1, h2.mono e k⟩⟩
theorem Ext.low (e : Ext W W') {b : Nat} (hb : b ≤ W.φ.length) : Ext (W.low b) (W'.low b) := by
  obtain ⟨t, q⟩ := e.p
  exact ⟨⟨[], by show W'.φ.take b = W.φ.take b ++ []; rw [q, List.take_append_of_le_length hb, List.append_nil]⟩, e.z, e.q⟩
theorem Keep0.low (k : Keep0 W H H') {b : Nat} : Keep0 (W.low b) H H' := ⟨k.tup, k.z, k.zi, k.ze⟩
theorem Rel.there (r : Rel G W s H) {n : Nat} {a : Addr} (h : W.φ[n]? = some a) : ∃ x, s.cs[n]? = some x ∧ CellR G W H a x := by
  have h1 := (List.getElem?_eq_some_iff.mp h).1
  rw [r.len] at h1
  exact ⟨s.cs[n], List.getElem?_eq_some_iff.mpr ⟨h1, rfl⟩, r.cell n a _ h (List.getElem?_eq_some_iff.mpr ⟨h1, rfl⟩)⟩
theorem CellR.some {a : Addr} {x : CS} (h : CellR G W H a x) : H a ≠ none := by
  obtain ⟨u, _, h1, h2⟩ := h
  cases e : x.lk with
  | false => rw [h1 e]; simp
  | true => obtain ⟨o, q⟩ := h2 e; rw [q]; simp
theorem Rel.fresh (r : Rel G W s H) {p : Addr} (hp : H p = none) : p ∉ W.φ ∧ ¬ W.Z p ∧ ¬ W.P p := by
  refine ⟨fun h => ?_, fun h => r.zok p h hp, fun h => r.pok p h hp⟩
  obtain ⟨n, hn⟩ := List.getElem?_of_mem h
  obtain ⟨x, _, c⟩ := r.there hn
  exact c.some hp
/-- a new object -/
theorem upd_keep {p : Addr} {o : HO} (hp : H p = none) : ∀ a u, H a = some u → (upd H p o) a = some u := fun a u h => by rw [upd_ne (ne_of_none h hp)]; exact h
theorem Keeps.new {p : Addr} {o : HO} (hp : H p = none) : Keeps W H (upd H p o) := Keeps.same (upd_keep hp)
/-- nothing but what is new stands otherwise -/
theorem Rel.step (r : Rel G W s H) (hk : ∀ a u, H a = some u → H' a = some u) : Rel G W s H' := by
  have kk : ∀ W : Wd, Keeps W H H' := fun W => Keeps.same hk
  refine ⟨r.len, r.nd, fun n a x h1 h2 => ?_, fun b hb n a x hn h1 h2 => ?_, r.bsz, r.sep, fun a hz h => ?_, r.sepP, fun a hz h => ?_, r.sepZ⟩
  · obtain ⟨u, q, c1, c2⟩ := r.cell n a x h1 h2
    exact ⟨u, q.mono (Ext.refl W) (kk W).toKeep0, fun e => hk _ _ (c1 e), fun e => let ⟨o, z⟩ := c2 e; ⟨o, hk _ _ z⟩⟩
  · obtain ⟨u, q, c1, c2⟩ := r.low b hb n a x hn h1 h2
    exact ⟨u, q.mono (Ext.refl _) (kk _).toKeep0, fun e => hk _ _ (c1 e), fun e => let ⟨o, z⟩ := c2 e; ⟨o, hk _ _ z⟩⟩
  · cases e : H a with
    | none => exact r.zok a hz e
    | some u => rw [hk a u e] at h; cases h
  · cases e : H a with
    | none => exact r.pok a hz e
    | some u => rw [hk a u e] at h; cases h
/-- a new thing that never changes -/
theorem Ext.addZ (W : Wd) (p : Addr) : Ext W (W.addZ p) := ⟨⟨[], (List.append_nil _).symm⟩, fun _ h => .inl h, fun _ h => h⟩
theorem Ext.addC (W : Wd) (p : Addr) : Ext W (W.addC p) := ⟨⟨[p], rfl⟩, fun _ h => h, fun _ h => h⟩
theorem Ext.addP (W : Wd) (p : Addr) : Ext W (W.addP p) := ⟨⟨[], (List.append_nil _).symm⟩, fun _ h => h, fun _ h => .inl h⟩
theorem Rel.freeze (r : Rel G W s H) {p : Addr} (hp : H p ≠ none) (hn : p ∉ W.φ) (hq : ¬ W.P p) : Rel G (W.addZ p) s H := by
  refine ⟨r.len, r.nd, fun n a x h1 h2 => ?_, fun b hb n a x hn h1 h2 => ?_, r.bsz, fun a ha h => ?_, fun a hz => ?_, r.sepP, r.pok, fun a hP h => ?_⟩
  · obtain ⟨u, q, c⟩ := r.cell n a x h1 h2
    exact ⟨u, q.mono (Ext.addZ W p) (Keep0.refl _ _), c⟩
  · obtain ⟨u, q, c⟩ := r.low b hb n a x hn h1 h2
    exact ⟨u, q.mono (show Ext (W.low b) (Wd.low (W.addZ p) b) from ⟨⟨[], (List.append_nil _).symm⟩, fun a (h : W.Z a) => Or.inl h, fun _ h => h⟩) (Keep0.refl _ _), c⟩
  · rcases h with h | h
    · exact r.sep a ha h
    · subst h; exact hn ha
  · rcases hz with h | h
    · exact r.zok a h
    · subst h; exact hp
  · rcases h with h | h
    · exact r.sepZ a hP h
    · subst h; exact hq hP
/-- pinned for a while -/
theorem Rel.pinP (r : Rel G W s H) {p : Addr} (hp : H p ≠ none) (hn : p ∉ W.φ) (hq : ¬ W.Z p) : Rel G (W.addP p) s H := by
  refine ⟨r.len, r.nd, fun n a x h1 h2 => ?_, fun b hb n a x hn h1 h2 => ?_, r.bsz, r.sep, r.zok, fun a ha h => ?_, fun a hz => ?_, fun a hP h => ?_⟩
  · obtain ⟨u, q, c⟩ := r.cell n a x h1 h2
    exact ⟨u, q.mono (Ext.addP W p) (Keep0.refl _ _), c⟩
  · obtain ⟨u, q, c⟩ := r.low b hb n a x hn h1 h2
    exact ⟨u, q.mono (show Ext (W.low b) (Wd.low (W.addP p) b) from ⟨⟨[], (List.append_nil _).symm⟩, fun _ h => h, fun a (h : W.P a) => Or.inl h⟩) (Keep0.refl _ _), c⟩
  · rcases h with h | h
    · exact r.sepP a ha h
    · subst h; exact hn ha
  · rcases hz with h | h
    · exact r.pok a h
    · subst h; exact hp
  · rcases hP with h2 | h2
    · exact r.sepZ a h2 h
    · subst h2; exact hq h
/-- .. and no more -/
theorem Rel.unpin (r : Rel G W s H) {P : Addr → Prop} (hP : ∀ a, P a → W.P a) : Rel G { W with P := P } s H := by
  have vr : ∀ W' : Wd, (∀ {v d}, VR G W' H v d → VR G { W' with P := P } H v d) := fun W' => by
    intro v d h
    exact VR.unP h
  refine ⟨r.len, r.nd, fun n a x h1 h2 => ?_, fun b hb n a x hn h1 h2 => ?_, r.bsz, r.sep, r.zok, fun a ha h => r.sepP a ha (hP a h), fun a hz => r.pok a (hP a hz), fun a hz => r.sepZ a (hP a hz)⟩
  · obtain ⟨u, q, c⟩ := r.cell n a x h1 h2
    exact ⟨u, HoR.unP q, c⟩
  · obtain ⟨u, q, c⟩ := r.low b hb n a x hn h1 h2
    exact ⟨u, HoR.unP q, c⟩
end
end MS

set_option Elab.async false
set_option linter.all false
set_option maxRecDepth 100000
set_option maxHeartbeats 400000
set_option autoImplicit false
/-! S2: readings; operations on values. -/
namespace MS
open PySem L2 M

theorem LIM_eq : LIM = sizeLine := by decide
/-! ### texts -/
theorem tx_len (x : Tx) : (tx x).length = x.length := by show x.toArray.size = _; simp
theorem tx_cps (x : Tx) : (tx x).cps.toList = x := by show x.toArray.toList = x; simp
theorem tx_app (x y : Tx) : tx x ++ tx y = tx (x ++ y) := by
  show Str.append (tx x) (tx y) = tx (x ++ y)
  unfold Str.append tx
  simp
theorem tx_inj {x y : Tx} (h : tx x = tx y) : x = y := by
  have := congrArg (fun z : Str => z.cps.toList) h
  simpa [tx] using this
theorem tx_eq {x y : Tx} : (tx x = tx y) ↔ x = y := ⟨tx_inj, fun h => h ▸ rfl⟩
theorem eq_tx (z : Str) : z = tx z.cps.toList := by cases z; simp [tx]
theorem tx_one (c : Nat) : (⟨#[c]⟩ : Str) = tx [c] := rfl

/-! ### readings -/
section
variable {α β γ δ : Type} {G : G0}
/-- what holds behind r: its end, or an error -/
def Post (G : G0) (rel : Wd → Hp → β → α → Prop) (W : Wd) (H : Hp) (r : R α) (Q : β → Hp → Prop) (E : Nat → Hp → Prop) : Prop :=
  match r with
  | .ok a s => ∀ W' b H', Ext W W' → Keeps W H H' → Rel G W' s H' → rel W' H' b a → Q b H'
  | .exc c s => ∀ W' H', Ext W W' → Keeps W H H' → Rel G W' s H' → E c H'
  | .bad => False
theorem Post.rebase {rel : Wd → Hp → β → α → Prop} {W W1 : Wd} {H H1 : Hp} {r : R α} {Q : β → Hp → Prop} {E : Nat → Hp → Prop} (h : Post G rel W H r Q E) (e : Ext W W1) (k : Keeps W H H1) : Post G rel W1 H1 r Q E := by
  cases r with
  | ok a s => exact fun W' b H' e' k' => h W' b H' (e.trans e') (k.trans e k')
  | exc c s => exact fun W' H' e' k' => h W' H' (e.trans e') (k.trans e k')
  | bad => exact h
theorem Post.mono {rel : Wd → Hp → β → α → Prop} {W : Wd} {H : Hp} {r : R α} {Q Q' : β → Hp → Prop} {E E' : Nat → Hp → Prop} (h : Post G rel W H r Q E) (f : ∀ b H', Q b H' → Q' b H') (g : ∀ c H', E c H' → E' c H') : Post G rel W H r Q' E' := by
  cases r with
  | ok a s => exact fun W' b H' e' k' q r => f _ _ (h W' b H' e' k' q r)
  | exc c s => exact fun W' H' e' k' q => g _ _ (h W' H' e' k' q)
  | bad => exact h
/-- the first of two in a row -/
theorem Post.bind {rel1 : Wd → Hp → γ → δ → Prop} {rel2 : Wd → Hp → β → α → Prop} {W : Wd} {H : Hp} {r : R δ} {f : δ → S → R α} {Q : β → Hp → Prop} {E : Nat → Hp → Prop} {Q' : γ → Hp → Prop} (h : Post G rel2 W H (r.bind f) Q E)
    (g : ∀ d s1 W1 b H1, Ext W W1 → Keeps W H H1 → Rel G W1 s1 H1 → rel1 W1 H1 b d → Post G rel2 W1 H1 (f d s1) Q E → Q' b H1) : Post G rel1 W H r Q' E := by
  cases r with
  | ok a s => exact fun W' b H' e' k' q rr => g a s W' b H' e' k' q rr (Post.rebase h e' k')
  | exc c s => exact h
  | bad => exact h
theorem Post.ret {rel : Wd → Hp → β → α → Prop} {W : Wd} {H : Hp} {a : α} {s : S} {Q : β → Hp → Prop} {E : Nat → Hp → Prop} (h : Post G rel W H (.ok a s) Q E) {W' : Wd} {b : β} {H' : Hp} (e : Ext W W') (k : Keeps W H H') (r : Rel G W' s H') (v : rel W' H' b a) : Q b H' := h W' b H' e k r v
theorem Post.now {rel : Wd → Hp → β → α → Prop} {W : Wd} {H : Hp} {a : α} {s : S} {Q : β → Hp → Prop} {E : Nat → Hp → Prop} (h : Post G rel W H (.ok a s) Q E) {b : β} (r : Rel G W s H) (v : rel W H b a) : Q b H := h W b H (Ext.refl W) (Keeps.refl W H) r v
theorem Post.opt {rel : Wd → Hp → β → α → Prop} {W : Wd} {H : Hp} {o : Option α} {s : S} {Q : β → Hp → Prop} {E : Nat → Hp → Prop} (h : Post G rel W H (optR o s) Q E) : ∃ a, o = some a ∧ Post G rel W H (.ok a s) Q E := by
  cases o with
  | some a => exact ⟨a, rfl, h⟩
  | none => exact h.elim
end
abbrev relB : Wd → Hp → Bool → Bool → Prop := fun _ _ a b => a = b
/-- an exception of the class c, at the slots σ -/
abbrev wx (G : G0) (Wx : WX) (σ : L2.St) : Nat → Hp → Prop := fun c H => Wx (.ref (G.cA c)) none σ H
def tE (G : G0) (Wx : WX) (K : Calls) (m : DE) : TE := fun σ H Q => ∃ W s e, Rel G W s H ∧ EnvR G W H σ e ∧ Post G (VR G) W H (evE K m e s) Q (wx G Wx σ)
def tT (G : G0) (Wx : WX) (K : Calls) (m : DE) : TT := fun σ H Q => ∃ W s e, Rel G W s H ∧ EnvR G W H σ e ∧ Post G relB W H (tru (evE K m e s)) Q (wx G Wx σ)
def tA (G : G0) (Wx : WX) (K : Calls) (ms : List DE) : TA := fun σ H Q => ∃ W s e, Rel G W s H ∧ EnvR G W H σ e ∧ Post G (VRs G) W H (evEs K ms e s) Q (wx G Wx σ)
section
variable {X : Cx} {e : Expr} {es : List Expr}
theorem _root_.L2.PE.imp {t t' : TE} (h : PE X e t) (f : ∀ σ H Q, t' σ H Q → t σ H Q) : PE X e t' := ⟨fun pins s σ H Q I q => h.run pins s σ H Q I (f _ _ _ q)⟩
theorem _root_.L2.PT.imp {t t' : TT} (h : PT X e t) (f : ∀ σ H Q, t' σ H Q → t σ H Q) : PT X e t' := ⟨fun pins s σ H Q I q => h.run pins s σ H Q I (f _ _ _ q)⟩
theorem _root_.L2.PA.imp {t t' : TA} (h : PA X es t) (f : ∀ σ H Q, t' σ H Q → t σ H Q) : PA X es t' := ⟨fun pos pins s σ H Q I q => h.run pos pins s σ H Q I (f _ _ _ q)⟩
theorem _root_.L2.PE.or {t t' : TE} (h : PE X e t) (h' : PE X e t') : PE X e (fun σ H Q => t σ H Q ∨ t' σ H Q) := ⟨fun pins s σ H Q I q => q.elim (h.run pins s σ H Q I) (h'.run pins s σ H Q I)⟩
end
/-! ### values read -/
section
variable {G : G0} {W : Wd} {H : Hp} {s : S} {v : V} {d : D}
theorem VR.int_ {i : Int} (h : VR G W H v (.int i)) : v = .int i := by cases h; rfl
theorem VR.bl_ {i : Bool} (h : VR G W H v (.bl i)) : v = .bl i := by cases h; rfl
theorem VR.str_ {i : Tx} (h : VR G W H v (.str i)) : v = .str (tx i) ∧ okT i = true := by cases h with | str _ h => exact ⟨rfl, h⟩
theorem VR.non_ (h : VR G W H v .non) : v = .non := by cases h; rfl
theorem cell_rd {x : CS} {a : Addr} (h : CellR G W H a x) : ∃ u, HoR G W H u x.c ∧ Rd H a u := by
  obtain ⟨u, q, h1, h2⟩ := h
  cases e : x.lk with
  | false => exact ⟨u, q, .inl (h1 e)⟩
  | true => obtain ⟨o, z⟩ := h2 e; exact ⟨u, q, .inr ⟨o, z⟩⟩
theorem cellAt_some {n : Nat} {c : Cell} (h : cellAt s n = some c) : ∃ x, s.cs[n]? = some x ∧ x.c = c := by
  unfold cellAt at h
  cases e : s.cs[n]? with
  | none => rw [e] at h; cases h
  | some x => rw [e] at h; exact ⟨x, rfl, Option.some.inj h⟩
theorem Rel.rg (r : Rel G W s H) {n : Nat} {c : Cell} (h : VR G W H v (.rg n)) (hc : cellAt s n = some c) : ∃ a u, v = .ref a ∧ W.φ[n]? = some a ∧ HoR G W H u c ∧ Rd H a u := by
  cases h with
  | rg h =>
    obtain ⟨x, e, rfl⟩ := cellAt_some hc
    obtain ⟨u, q, z⟩ := cell_rd (r.cell n _ x h e)
    exact ⟨_, u, rfl, h, q, z⟩
theorem Rel.rgU (r : Rel G W s H) {n : Nat} {c : Cell} (h : VR G W H v (.rg n)) (hc : s.cs[n]? = some ⟨false, c⟩) : ∃ a u, v = .ref a ∧ W.φ[n]? = some a ∧ HoR G W H u c ∧ H a = some u := by
  cases h with
  | rg h =>
    obtain ⟨u, q, z, _⟩ := r.cell n _ _ h hc
    exact ⟨_, u, rfl, h, q, z rfl⟩
theorem lst_of (r : Rel G W s H) (h : VR G W H v d) {xs : List D} (e : lstOf s d = some xs) : ∃ a vs, v = .ref a ∧ Rd H a (.lst vs) ∧ VRs G W H vs xs := by
  cases d with
  | lst ys =>
    cases h with
    | lst z q t => cases e; exact ⟨_, _, rfl, q, t⟩
  | rg n =>
    cases hc : cellAt s n with
    | none => simp only [lstOf, hc] at e; cases e
    | some c =>
      simp only [lstOf, hc] at e
      cases c with
      | lst ys =>
        cases e
        obtain ⟨a, u, rfl, _, q, z⟩ := r.rg h hc
        cases q with
        | lst q => exact ⟨a, _, rfl, z, q⟩
      | _ => cases e
  | _ => cases e
theorem scr_vrs : ∀ ns : List Int, VRs G W H (ns.map V.int) (ns.map D.int)
  | [] => .nil
  | n :: ns => .cons (.int n) (scr_vrs ns)
theorem seq_of (r : Rel G W s H) (h : VR G W H v d) {xs : List D} (e : seqOf s d = some xs) : ∃ a vs, v = .ref a ∧ (SqL G.K H a vs ∨ SqT G.K H a vs) ∧ VRs G W H vs xs := by
  have l : ∀ {xs : List D}, lstOf s d = some xs → ∃ a vs, v = .ref a ∧ (SqL G.K H a vs ∨ SqT G.K H a vs) ∧ VRs G W H vs xs := fun {xs} e => by
    obtain ⟨a, vs, q, z, t⟩ := lst_of r h e
    exact ⟨a, vs, q, .inl (.inl z), t⟩
  cases d with
  | tup ys =>
    cases h with
    | tup q t => cases e; exact ⟨_, _, rfl, .inr (.inl (.inl q)), t⟩
  | scr ns =>
    cases h with
    | scr q => cases e; exact ⟨_, _, rfl, .inl (scr_sq q), scr_vrs ns⟩
  | _ => exact l e
theorem zip_fst {α β : Type} : ∀ {xs : List α} {ys : List β}, xs.length = ys.length → (xs.zip ys).map (·.1) = xs
  | [], [], _ => rfl
  | [], _ :: _, h => by simp at h
  | _ :: _, [], h => by simp at h
  | x :: xs, y :: ys, h => by simp only [List.zip_cons_cons, List.map_cons]; rw [zip_fst (by simpa using h)]
theorem zip_snd {α β : Type} : ∀ {xs : List α} {ys : List β}, xs.length = ys.length → (xs.zip ys).map (·.2) = ys
  | [], [], _ => rfl
  | [], _ :: _, h => by simp at h
  | _ :: _, [], h => by simp at h
  | x :: xs, y :: ys, h => by simp only [List.zip_cons_cons, List.map_cons]; rw [zip_snd (by simpa using h)]
theorem map_fst {α β γ : Type} (f : α → γ) (xs : List (α × β)) : xs.map (fun p => f p.1) = (xs.map (·.1)).map f := by rw [List.map_map]; rfl
/-- a dict's object stands for its entries -/
inductive DcR (G : G0) (W : Wd) (H : Hp) (a : Addr) : Bool → List (Ky × D) → Prop where
  | k {kvs : List (Key × V)} {gs : List (Ky × D)} : Rd H a (.dK kvs) → KR G W H kvs gs → DcR G W H a false gs
  | t {kvs : List (List Key × V)} {gs : List (Ky × D)} : Rd H a (.dT kvs) → TR G W H kvs gs → DcR G W H a true gs
theorem dct_of (r : Rel G W s H) (h : VR G W H v d) {t : Bool} {gs : List (Ky × D)} (e : dctOf s d = some (t, gs)) : ∃ a, v = .ref a ∧ DcR G W H a t gs := by
  cases d with
  | dct t' ks ds =>
    cases e
    cases h with
    | @dK a kvs _ _ z q t p w =>
      have hl : ks.length = ds.length := by
        have h1 := congrArg List.length p
        have h2 := w.length
        simp only [List.length_map] at h1 h2
        omega
      refine ⟨a, rfl, .k q ⟨fun x hx => t x.1 (List.of_mem_zip hx).1, ?_, ?_⟩⟩
      · rw [map_fst keyK, zip_fst hl]; exact p
      · rw [zip_snd hl]; exact w
    | @dT a kvs _ _ z q t p w =>
      have hl : ks.length = ds.length := by
        have h1 := congrArg List.length p
        have h2 := w.length
        simp only [List.length_map] at h1 h2
        omega
      refine ⟨a, rfl, .t q ⟨fun x hx => t x.1 (List.of_mem_zip hx).1, ?_, ?_⟩⟩
      · rw [map_fst keyT, zip_fst hl]; exact p
      · rw [zip_snd hl]; exact w
  | rg n =>
    cases hc : cellAt s n with
    | none => simp [dctOf, hc] at e
    | some c =>
      cases c with
      | dct t' ys =>
        simp only [dctOf, hc] at e
        cases e
        obtain ⟨a, u, rfl, _, q, z⟩ := r.rg h hc
        cases q with
        | dK q => exact ⟨a, rfl, .k z q⟩
        | dT q => exact ⟨a, rfl, .t z q⟩
      | _ => simp [dctOf, hc] at e
  | _ => simp [dctOf] at e
theorem ins_of (r : Rel G W s H) (h : VR G W H v d) {c : Nat} {fs : List (Tx × D)} (e : insOf s d = some (c, fs)) : ∃ a dx gs, v = .ref a ∧ H a = some (.ins (G.cA c) dx gs) ∧ FR G W H gs fs := by
  cases d with
  | ins c' ns ds =>
    cases e
    cases h with
    | @ins a dx gs _ _ _ z q p w =>
      have hl : ns.length = ds.length := by
        have h1 := congrArg List.length p
        have h2 := w.length
        simp only [List.length_map] at h1 h2
        omega
      refine ⟨a, dx, gs, rfl, q, ?_, ?_⟩
      · rw [map_fst tx, zip_fst hl]; exact p
      · rw [zip_snd hl]; exact w
  | rg n =>
    cases hc : s.cs[n]? with
    | none => simp only [insOf, hc] at e; cases e
    | some x =>
      obtain ⟨l, c'⟩ := x
      cases l with
      | true => simp only [insOf, hc] at e; cases e
      | false =>
        cases c' with
        | ins c'' fs' =>
          simp only [insOf, hc] at e
          cases e
          obtain ⟨a, u, rfl, _, q, z⟩ := r.rgU h hc
          cases q with
          | ins q => exact ⟨a, _, _, rfl, z, q⟩
        | _ => simp [insOf, hc] at e
  | _ => simp [insOf] at e
theorem FR.look {fs : List (Str × V)} {gs : List (Tx × D)} (h : FR G W H fs gs) (f : Tx) {d : D} (e : gs.lookup f = some d) : ∃ v, fs.lookup (tx f) = some v ∧ VR G W H v d := by
  obtain ⟨h1, h2⟩ := h
  induction gs generalizing fs with
  | nil => cases e
  | cons p gs ih =>
    cases fs with
    | nil => simp at h1
    | cons q fs =>
      simp only [List.map_cons, List.cons.injEq] at h1
      cases h2 with
      | cons hv ht =>
        rw [List.lookup_cons] at e ⊢
        have hb : (tx f == q.1) = (f == p.1) := by
          rw [h1.1]
          by_cases z : f = p.1
          · rw [z, beq_self_eq_true, beq_self_eq_true]
          · have z' : ¬ tx f = tx p.1 := fun h => z (tx_inj h)
            rw [beq_eq_false_iff_ne.mpr z, beq_eq_false_iff_ne.mpr z']
        rw [hb]
        cases z : f == p.1 with
        | true => rw [z] at e; cases e; exact ⟨_, rfl, hv⟩
        | false => rw [z] at e; exact ih e h1.2 ht
theorem FR.no {fs : List (Str × V)} {gs : List (Tx × D)} (h : FR G W H fs gs) (f : Tx) (e : gs.lookup f = none) : fs.lookup (tx f) = none := by
  obtain ⟨h1, h2⟩ := h
  induction gs generalizing fs with
  | nil => cases fs with
    | nil => rfl
    | cons _ _ => simp at h1
  | cons p gs ih =>
    cases fs with
    | nil => simp at h1
    | cons q fs =>
      simp only [List.map_cons, List.cons.injEq] at h1
      cases h2 with
      | cons hv ht =>
        rw [List.lookup_cons] at e ⊢
        have hb : (tx f == q.1) = (f == p.1) := by
          rw [h1.1]
          by_cases z : f = p.1
          · rw [z, beq_self_eq_true, beq_self_eq_true]
          · have z' : ¬ tx f = tx p.1 := fun h => z (tx_inj h)
            rw [beq_eq_false_iff_ne.mpr z, beq_eq_false_iff_ne.mpr z']
        rw [hb]
        cases z : f == p.1 with
        | true => rw [z] at e; cases e
        | false => rw [z] at e; exact ih e h1.2 ht
/-- a new thing by value -/
theorem Rel.newZ (r : Rel G W s H) {p : Addr} (hp : H p = none) (o : HO) : Ext W (W.addZ p) ∧ Keeps W H (upd H p o) ∧ Rel G (W.addZ p) s (upd H p o) :=
  ⟨Ext.addZ W p, Keeps.new hp, (r.step (upd_keep hp)).freeze (by rw [upd_same]; simp) (r.fresh hp).1 (r.fresh hp).2.2⟩
theorem newL (r : Rel G W s H) {p : Addr} (hp : H p = none) {vs : List V} {ds : List D} (h : VRs G W H vs ds) :
    Ext W (W.addZ p) ∧ Keeps W H (upd H p (.lst vs)) ∧ Rel G (W.addZ p) s (upd H p (.lst vs)) ∧ VR G (W.addZ p) (upd H p (.lst vs)) (.ref p) (.lst ds) := by
  obtain ⟨e, k, q⟩ := r.newZ hp (.lst vs)
  exact ⟨e, k, q, .lst (.inr rfl) (.inl upd_same) (h.mono e k)⟩
theorem newT (r : Rel G W s H) {p : Addr} (hp : H p = none) {vs : List V} {ds : List D} (h : VRs G W H vs ds) :
    Keeps W H (upd H p (.tup vs)) ∧ Rel G W s (upd H p (.tup vs)) ∧ VR G W (upd H p (.tup vs)) (.ref p) (.tup ds) :=
  ⟨Keeps.new hp, r.step (upd_keep hp), .tup upd_same (h.mono (Ext.refl W) (Keeps.new hp).toKeep0)⟩
/-- a new cell -/
theorem Rel.newC (r : Rel G W s H) {p : Addr} (hp : H p = none) {o : HO} {c : Cell} (h : HoR G W H o c) :
    Ext W (W.addC p) ∧ Keeps W H (upd H p o) ∧ Rel G (W.addC p) (newCell s c) (upd H p o) ∧ VR G (W.addC p) (upd H p o) (.ref p) (.rg s.cs.length) := by
  have e : Ext W (W.addC p) := Ext.addC W p
  have k : Keeps W H (upd H p o) := Keeps.new hp
  have r' := r.step (upd_keep (o := o) hp)
  refine ⟨e, k, ?_, .rg (by show (W.φ ++ [p])[s.cs.length]? = some p; rw [← r.len]; simp)⟩
  refine ⟨?_, ?_, fun n a x h1 h2 => ?_, fun b hb n a x hn h1 h2 => ?_, fun b hb => ?_, fun a ha => ?_, fun a hz => r'.zok a hz, fun a ha => ?_, fun a hz => r'.pok a hz, r.sepZ⟩
  · show (W.φ ++ [p]).length = (s.cs ++ [_]).length
    simp [r.len]
  · show (W.φ ++ [p]).Nodup
    rw [List.nodup_append]
    refine ⟨r.nd, by simp, fun a ha b hb => ?_⟩
    simp at hb
    subst hb
    rintro rfl
    exact (r.fresh hp).1 ha
  · have h1' : (W.φ ++ [p])[n]? = some a := h1
    have h2' : (s.cs ++ [⟨false, c⟩])[n]? = some x := h2
    by_cases hn : n < W.φ.length
    · rw [List.getElem?_append_left hn] at h1'
      rw [List.getElem?_append_left (by rw [← r.len]; exact hn)] at h2'
      obtain ⟨u, q, z⟩ := r'.cell n a x h1' h2'
      exact ⟨u, HoR.mono e (Keep0.refl W _) q, z⟩
    · have hl : n < (W.φ ++ [p]).length := (List.getElem?_eq_some_iff.mp h1').1
      have en : n = W.φ.length := by simp at hl; omega
      subst en
      rw [List.getElem?_append_right (Nat.le_refl _)] at h1'
      rw [r.len, List.getElem?_append_right (Nat.le_refl _)] at h2'
      simp at h1' h2'
      subst h1'; subst h2'
      exact ⟨o, h.mono e k, fun _ => upd_same, fun z => by cases z⟩
  · have hbl : b ≤ s.cs.length := r.bsz b hb
    have h1' : (W.φ ++ [p])[n]? = some a := h1
    have h2' : (s.cs ++ [⟨false, c⟩])[n]? = some x := h2
    rw [List.getElem?_append_left (by rw [r.len]; omega)] at h1'
    rw [List.getElem?_append_left (by omega)] at h2'
    obtain ⟨u, q, z⟩ := r'.low b hb n a x hn h1' h2'
    exact ⟨u, q.mono (Ext.low e (by rw [r.len]; exact hbl)) (Keep0.refl _ _), z⟩
  · have := r.bsz b hb
    show b ≤ (s.cs ++ [_]).length
    simp; omega
  · have ha' : a ∈ W.φ ++ [p] := ha
    rw [List.mem_append] at ha'
    rcases ha' with ha | ha
    · exact r.sep a ha
    · simp at ha; subst ha; exact (r.fresh hp).2.1
  · have ha' : a ∈ W.φ ++ [p] := ha
    rw [List.mem_append] at ha'
    rcases ha' with ha | ha
    · exact r.sepP a ha
    · simp at ha; subst ha; exact (r.fresh hp).2.2
end
end MS

set_option Elab.async false
set_option linter.all false
set_option maxRecDepth 100000
set_option maxHeartbeats 400000
set_option autoImplicit false
/-! S3: operations on values. -/
namespace MS
open PySem L2 M

/-- what an operation on values asks: the data that they stand for, and its end -/
def rB (G : G0) (f : S → D → D → Option D) : R2 := fun x y H Q => ∃ W s dx dy d, Rel G W s H ∧ VR G W H x dx ∧ VR G W H y dy ∧ f s dx dy = some d ∧ ∀ W' v H', Ext W W' → Keeps W H H' → Rel G W' s H' → VR G W' H' v d → Q v H'
theorem EP.mk {X : Cx} {pins : List (Addr × Obj)} {σ : L2.St} {Q : VK} {u : Value} {s' : Shared} {v : V} {H' : Hp} (I : Inv X pins σ H' s') (r : RelV v u) (q : Q v H') : EP X pins σ Q u s' := ⟨v, H', I, r, q⟩
section
variable {G : G0} {X : Cx} {pins : List (Addr × Obj)} {σ : L2.St} {H : Hp} {s : Shared}
theorem lstR (I : Inv X pins σ H s) {l : Addr} {xs : List V} (h : Rd H l (.lst xs)) : xs.length ≤ sizeLine ∧ ∃ (its : List Value) (n : Nat), Vals xs its ∧ xs.length = its.length ∧ s.heap.get? l = some { cls := .type "list", data := .seq its.toArray n } := by
  obtain ⟨z, its, n, r, e⟩ := h.ok I.hok
  exact ⟨z, its, n, r, r.length, e⟩
theorem VRs.rep {W : Wd} {H : Hp} {vs : List V} {ds : List D} (r : VRs G W H vs ds) : ∀ n : Nat, VRs G W H (List.replicate n vs).flatten (List.replicate n ds).flatten
  | 0 => .nil
  | n + 1 => by
    rw [List.replicate_succ, List.replicate_succ, List.flatten_cons, List.flatten_cons]
    exact r.append (VRs.rep r n)
def bop : BOp → Operator
  | .add => .Add
  | .sub => .Sub
  | .mul => .Mult
  | .fdiv => .FloorDiv
  | .mod => .Mod
  | .pow => .Pow
theorem okT_app {x y : Tx} (h : okT x = true) (h2 : okT y = true) : okT (x ++ y) = true := by
  unfold okT at *
  rw [List.all_append, h, h2]; rfl
theorem okT_mem {x : Tx} (h : okT x = true) {c : Nat} (hc : c ∈ x) : okT [c] = true := by
  unfold okT at *
  have := List.all_eq_true.mp h c hc
  simpa using this
theorem okT_sub {x y : Tx} (h : okT x = true) (hs : ∀ c ∈ y, c ∈ x) : okT y = true := by
  unfold okT at *
  exact List.all_eq_true.mpr fun c hc => List.all_eq_true.mp h c (hs c hc)
theorem op_int (o : BOp) {i j k : Int} (h : bint o i j = some k) {v u : Value} (rv : RelV (.int i) v) (ru : RelV (.int j) u) {Q : VK} (I : Inv X pins σ H s) (q : Q (.int k) H) :
    wpAny (model X.prog X.w) X.A (binaryOp (bop o) v u) (EP X pins σ Q) X.xe s := by
  cases o with
  | add => cases h; exact op_add pins s σ H _ _ v u Q I rv ru ⟨i, j, rfl, rfl, q⟩
  | sub => cases h; exact op_sub pins s σ H _ _ v u Q I rv ru ⟨i, j, rfl, rfl, q⟩
  | mul =>
    simp only [bint] at h
    split at h
    · rename_i c; cases h; exact op_mul pins s σ H _ _ v u Q I rv ru ⟨i, j, rfl, rfl, c, q⟩
    · cases h
  | fdiv =>
    simp only [bint] at h
    split at h
    · rename_i c; cases h; exact op_fdiv pins s σ H _ _ v u Q I rv ru ⟨i, j, rfl, rfl, c, q⟩
    · cases h
  | mod =>
    simp only [bint] at h
    split at h
    · rename_i c; cases h; exact op_mod pins s σ H _ _ v u Q I rv ru ⟨i, j, rfl, rfl, c, q⟩
    · cases h
  | pow =>
    simp only [bint] at h
    split at h
    · rename_i c; cases h; exact op_pow pins s σ H _ _ v u Q I rv ru ⟨i, j, rfl, rfl, c, q⟩
    · cases h
theorem cat_ok {l b : Addr} {xs zs : List V} {Q : VK} (I : Inv X pins σ H s) (hH : Rd H l (.lst xs)) (hB : Rd H b (.lst zs)) (hz : xs.length + zs.length ≤ sizeLine) (q : ∀ p, H p = none → Q (.ref p) (upd H p (.lst (xs ++ zs)))) :
    wpAny (model X.prog X.w) X.A (binaryOp .Add (.ref l) (.ref b)) (EP X pins σ Q) X.xe s := by
  obtain ⟨z, its, n, r, hl, e⟩ := lstR I hH
  obtain ⟨z2, its2, n2, r2, hl2, e2⟩ := lstR I hB
  refine PySem.P.add_list e e2 ?_ (by rw [List.size_toArray, List.size_toArray]; omega)
  have ea : its.toArray ++ its2.toArray = (its ++ its2).toArray := by simp
  rw [ea]
  exact ⟨.ref _, _, I.lnew (t' := s.toks) (r.append r2) (by rw [List.length_append]; omega), rfl, q _ I.fresh⟩
theorem rep_ok {l : Addr} {k : Int} {t : Tok} {xs : List V} {Q : VK} (I : Inv X pins σ H s) (hH : Rd H l (.lst xs)) (h1 : -(2 ^ 63) ≤ k) (h2 : k < 2 ^ 63) (hz : xs.length * k.toNat ≤ sizeLine)
    (q : ∀ p, H p = none → Q (.ref p) (upd H p (.lst (List.replicate k.toNat xs).flatten))) :
    wpAny (model X.prog X.w) X.A (binaryOp .Mult (.ref l) (.int k t)) (EP X pins σ Q) X.xe s := by
  obtain ⟨z, its, n, r, hl, e⟩ := lstR I hH
  have hlen : its.toArray.size * k.toNat ≤ sizeLine := by rw [List.size_toArray, ← hl]; exact hz
  have hcap : ¬ its.toArray.size * k.toNat > (2 ^ 63 - 1) / 8 := by
    have : (sizeLine : Nat) ≤ (2 ^ 63 - 1) / 8 := by decide
    omega
  have hfit : ¬ (!Builtin.List.listFitsIndex k) = true := by
    rw [fitsIndex_both h1 h2]
    exact Bool.false_ne_true
  have hlong : ¬ Builtin.List.listTooLong (its.toArray.size * k.toNat) = true := by
    rw [notLongL hlen]
    exact Bool.false_ne_true
  have hnew : List.foldl (fun x1 x2 => x1 ++ x2) #[] (List.replicate (if its.toArray.isEmpty = true then 0 else k.toNat) its.toArray) = (List.replicate k.toNat its).flatten.toArray := by
    have f0 : ∀ m : Nat, List.foldl (fun x1 x2 => x1 ++ x2) #[] (List.replicate m its.toArray) = (List.replicate m its).flatten.toArray := fun m => by
      have := foldl_rep its m []
      rw [List.nil_append] at this
      exact this
    rw [f0]
    cases its with
    | nil => simp
    | cons a r' => rw [if_neg (by simp)]
  refine wpAny_binaryOp_repeat_ref (T := "list") (U := "int") (by decide) ⟨_, e, rfl⟩ (fun s' => typeIs_int s' k t) noFill_list_mul F.fills_int_mul F.slot_int_rmul repeat_list F.slot_int_index.lookup
    (call_meets F.slot_int_rmul (typeIs_int s k t) F.entry_int_rmul (F.args_int_rmul_2 _ _) (int___rmul___int_list k t l its.toArray n)
      ⟨e, rfl, ⟨_, e, rfl⟩, call_meets F.slot_list_mul ⟨_, e, rfl⟩ F.entry_list_mul (F.args_list_mul_2 _ _) (AutoListH.list___mul___list_int_3 l its.toArray n k t hfit hcap hlong) ⟨e, ?_⟩⟩)
  rw [hnew]
  exact ⟨.ref _, _, I.lnew (t' := s.toks) (r.rep k.toNat) (by rw [PyProof.Rows.lm_len_rep_flat, Nat.mul_comm]; exact hz), rfl, q _ I.fresh⟩
theorem rep01 {x : Tx} {n : Int} (h : n = 0 ∨ n = 1) {v u : Value} (rv : RelV (.str (tx x)) v) (ru : RelV (.int n) u) {Q : VK} (I : Inv X pins σ H s) (q : Q (.str (tx (if n = 0 then [] else x))) H) :
    wpAny (model X.prog X.w) X.A (binaryOp .Mult v u) (EP X pins σ Q) X.xe s := by
  obtain ⟨t, rfl⟩ := rv
  obtain ⟨t2, rfl⟩ := ru
  rcases h with rfl | rfl
  · exact PySem.P.mul_str_none (by decide) (by decide) (EP.mk (v := .str (tx [])) (I.tok _) ⟨_, rfl⟩ q)
  · refine PySem.P.mul_str (by decide) (fun _ h => by simp at h) (fun _ h => by simp at h) ?_
    rw [if_neg (by decide), if_pos (by simp)]
    exact EP.mk (v := .str (tx x)) I ⟨_, rfl⟩ q
theorem binD_cases {s : S} {o : BOp} {x y d : D} (h : binD s o x y = some d) :
    (∃ i j k, x = .int i ∧ y = .int j ∧ bint o i j = some k ∧ d = .int k) ∨
    (o = .add ∧ ∃ a b, x = .str a ∧ y = .str b ∧ a.length + b.length ≤ LIM ∧ d = .str (a ++ b)) ∨
    (o = .mul ∧ ∃ a n, x = .str a ∧ y = .int n ∧ (n = 0 ∨ n = 1) ∧ d = .str (if n = 0 then [] else a)) ∨
    (o = .mul ∧ ∃ xs n, lstOf s x = some xs ∧ y = .int n ∧ (0 ≤ n ∧ xs.length * n.toNat ≤ LIM ∧ n < 2 ^ 62) ∧ d = .lst (repL n.toNat xs)) ∨
    (o = .add ∧ ∃ xs ys, lstOf s x = some xs ∧ lstOf s y = some ys ∧ xs.length + ys.length ≤ LIM ∧ d = .lst (xs ++ ys)) ∨
    (o = .mul ∧ ∃ xs n, x = .tup xs ∧ y = .int n ∧ (xs.isEmpty = false ∧ 2 ≤ n ∧ n ≤ 1000 ∧ xs.length ≤ 1000) ∧ d = .tup (repL n.toNat xs)) ∨
    (o = .add ∧ ∃ xs ys, x = .tup xs ∧ y = .tup ys ∧ (xs.isEmpty = false ∧ xs.length + ys.length ≤ LIM) ∧ d = .tup (xs ++ ys)) := by
  unfold binD at h
  split at h
  · rename_i i j
    cases e : bint o i j with
    | none => rw [e] at h; cases h
    | some k => rw [e] at h; cases h; exact .inl ⟨i, j, k, rfl, rfl, e, rfl⟩
  · rename_i a b
    cases o <;> simp only [] at h <;> try cases h
    split at h
    · rename_i c; cases h; exact .inr (.inl ⟨rfl, a, b, rfl, rfl, c, rfl⟩)
    · cases h
  · rename_i a n
    cases o <;> simp only [] at h <;> try cases h
    split at h
    · rename_i c; cases h; exact .inr (.inr (.inl ⟨rfl, a, n, rfl, rfl, .inl c, by rw [if_pos c]⟩))
    · rename_i c0
      split at h
      · rename_i c; cases h; exact .inr (.inr (.inl ⟨rfl, a, n, rfl, rfl, .inr c, by rw [if_neg c0]⟩))
      · cases h
  · rename_i a n
    cases o <;> simp only [] at h <;> try cases h
    split at h
    · rename_i c; cases h; exact .inr (.inr (.inr (.inr (.inr (.inl ⟨rfl, a, n, rfl, rfl, c, rfl⟩)))))
    · cases h
  · rename_i a n
    cases o <;> simp only [] at h <;> try cases h
    split at h
    · rename_i c; cases h; exact .inr (.inr (.inr (.inr (.inr (.inr ⟨rfl, a, n, rfl, rfl, c, rfl⟩)))))
    · cases h
  · rename_i n _ _ _
    split at h
    · rename_i a e
      split at h
      · rename_i c; cases h; exact .inr (.inr (.inr (.inl ⟨rfl, a, n, e, rfl, c, rfl⟩)))
      · cases h
    · cases h
  · split at h
    · rename_i a b e e2
      split at h
      · rename_i c; cases h; exact .inr (.inr (.inr (.inr (.inl ⟨rfl, a, b, e, e2, c, rfl⟩))))
      · cases h
    · cases h
theorem isEmpty_ne {α : Type} {xs : List α} (h : xs.isEmpty = false) : xs ≠ [] := fun e => by rw [e] at h; cases h
theorem op_bin (hK : X.K = G.K) (o : BOp) : OpR X (binaryOp (bop o)) (rB G (fun s => binD s o)) := by
  intro pins s σ H x y v u Q I rx ry ⟨W, ms, dx, dy, d, R, vx, vy, e, q⟩
  rcases binD_cases e with ⟨i, j, k, rfl, rfl, c, rfl⟩ | ⟨rfl, a, b, rfl, rfl, c, rfl⟩ | ⟨rfl, a, n, rfl, rfl, c, rfl⟩ | ⟨rfl, xs, n, c, rfl, c2, rfl⟩ | ⟨rfl, xs, ys, c, c2, c3, rfl⟩ | ⟨rfl, xs, n, rfl, rfl, ⟨c1, c2, c3, c4⟩, rfl⟩ | ⟨rfl, xs, ys, rfl, rfl, ⟨c1, c2⟩, rfl⟩
  · cases vx.int_; cases vy.int_
    exact op_int o c rx ry I (q W _ H (Ext.refl W) (Keeps.refl W H) R (.int k))
  · obtain ⟨rfl, o1⟩ := vx.str_
    obtain ⟨rfl, o2⟩ := vy.str_
    refine op_add_str pins s σ H _ _ v u Q I rx ry ⟨_, _, rfl, rfl, by rw [tx_len, tx_len, ← LIM_eq]; exact c, ?_⟩
    rw [tx_app]
    exact q W _ H (Ext.refl W) (Keeps.refl W H) R (.str _ (okT_app o1 o2))
  · obtain ⟨rfl, o1⟩ := vx.str_
    cases vy.int_
    refine rep01 c rx ry I (q W _ H (Ext.refl W) (Keeps.refl W H) R (.str _ ?_))
    split
    · rfl
    · exact o1
  · obtain ⟨a, vs, rfl, hr, hv⟩ := lst_of R vx c
    cases vy.int_
    cases rx
    obtain ⟨t, rfl⟩ := ry
    obtain ⟨c1, c2, c3⟩ := c2
    refine rep_ok I hr (by omega) (by omega) (by rw [hv.length, ← LIM_eq]; exact c2) fun p hp => ?_
    obtain ⟨e1, k1, r1, v1⟩ := newL R hp (hv.rep n.toNat)
    exact q _ _ _ e1 k1 r1 v1
  · obtain ⟨a, vs, rfl, hr, hv⟩ := lst_of R vx c
    obtain ⟨b, ws, rfl, hr2, hv2⟩ := lst_of R vy c2
    cases rx
    cases ry
    refine cat_ok I hr hr2 (by rw [hv.length, hv2.length, ← LIM_eq]; exact c3) fun p hp => ?_
    obtain ⟨e1, k1, r1, v1⟩ := newL R hp (hv.append hv2)
    exact q _ _ _ e1 k1 r1 v1
  · cases vy.int_
    cases vx with
    | @tup a vs _ hq hv =>
      have hne : vs ≠ [] := fun e => isEmpty_ne c1 (by have := hv.length; rw [e] at this; exact List.eq_nil_of_length_eq_zero this.symm)
      refine op_repT pins s σ H _ _ v u Q I rx ry ⟨a, n, vs, rfl, rfl, .inl (.inl hq), hne, c2, c3, by rw [hv.length]; exact c4, fun p hp => ?_⟩
      obtain ⟨k1, r1, v1⟩ := newT R hp (hv.rep n.toNat)
      exact q W _ _ (Ext.refl W) k1 r1 v1
  · cases vx with
    | @tup a vs _ hq hv =>
      cases vy with
      | @tup b ws _ hq2 hv2 =>
        have hne : vs ≠ [] := fun e => isEmpty_ne c1 (by have := hv.length; rw [e] at this; exact List.eq_nil_of_length_eq_zero this.symm)
        refine op_catT pins s σ H _ _ v u Q I rx ry ⟨a, b, vs, ws, rfl, rfl, .inl (.inl hq), .inl (.inl hq2), hne, by rw [hv.length, hv2.length, ← LIM_eq]; exact c2, fun e => ?_, fun _ p hp => ?_⟩
        · subst e
          cases hv2
          exact q W _ H (Ext.refl W) (Keeps.refl W H) R (by rw [List.append_nil]; exact .tup hq hv)
        · obtain ⟨k1, r1, v1⟩ := newT R hp (hv.append hv2)
          exact q W _ _ (Ext.refl W) k1 r1 v1
end
end MS

set_option Elab.async false
set_option linter.all false
set_option maxRecDepth 100000
set_option maxHeartbeats 400000
set_option autoImplicit false
/-! S4: dicts; comparisons; truth; places; slices. -/
namespace MS
open PySem L2 M

section
variable {G : G0} {W : Wd} {H : Hp} {κ : Type} [DecidableEq κ]
/-- entries by a name of their keys -/
def GR (G : G0) (W : Wd) (H : Hp) (f : Ky → κ) (P : Ky → Prop) (kvs : List (κ × V)) (gs : List (Ky × D)) : Prop := (∀ p ∈ gs, P p.1) ∧ kvs.map (·.1) = gs.map (fun p => f p.1) ∧ VRs G W H (kvs.map (·.2)) (gs.map (·.2))
variable {f : Ky → κ} {P : Ky → Prop} (inj : ∀ a b, P a → P b → f a = f b → a = b)
def OR (G : G0) (W : Wd) (H : Hp) : Option V → Option D → Prop
  | some v, some d => VR G W H v d
  | none, none => True
  | _, _ => False
include inj in
theorem GR.get {k : Ky} (hk : P k) : ∀ {kvs : List (κ × V)} {gs : List (Ky × D)}, GR G W H f P kvs gs → OR G W H (valV kvs (f k)) (getK gs k)
  | [], [], _ => trivial
  | [], _ :: _, h => by have := h.2.1; simp at this
  | _ :: _, [], h => by have := h.2.1; simp at this
  | (a, v) :: kvs, (b, d) :: gs, ⟨h1, h2, h3⟩ => by
    simp only [List.map_cons, List.cons.injEq] at h2 h3
    cases h3 with
    | cons hv ht =>
      have ih := GR.get hk (kvs := kvs) (gs := gs) ⟨fun p hp => h1 p (List.mem_cons_of_mem _ hp), h2.2, ht⟩
      have pb : P b := h1 (b, d) List.mem_cons_self
      by_cases e : b = k
      · subst e
        rw [valV_pos (p := (a, v)) h2.1]
        have : getK ((b, d) :: gs) b = some d := by simp [getK]
        rw [this]
        exact hv
      · have ne : ¬ a = f k := fun z => e (inj b k pb hk (h2.1.symm.trans z))
        rw [valV_neg (p := (a, v)) ne]
        have : getK ((b, d) :: gs) k = getK gs k := by simp [getK, e]
        rw [this]
        exact ih
include inj in
theorem GR.any {k : Ky} (hk : P k) : ∀ {kvs : List (κ × V)} {gs : List (Ky × D)}, GR G W H f P kvs gs → (kvs.any fun kv => decide (kv.1 = f k)) = gs.any fun p => decide (p.1 = k)
  | [], [], _ => rfl
  | [], _ :: _, h => by have := h.2.1; simp at this
  | _ :: _, [], h => by have := h.2.1; simp at this
  | (a, v) :: kvs, (b, d) :: gs, ⟨h1, h2, h3⟩ => by
    simp only [List.map_cons, List.cons.injEq] at h2 h3
    cases h3 with
    | cons hv ht =>
      have ih := GR.any hk (kvs := kvs) (gs := gs) ⟨fun p hp => h1 p (List.mem_cons_of_mem _ hp), h2.2, ht⟩
      have pb : P b := h1 (b, d) List.mem_cons_self
      rw [List.any_cons, List.any_cons, ih]
      congr 1
      by_cases e : b = k
      · subst e; simp [h2.1]
      · have ne : ¬ a = f k := fun z => e (inj b k pb hk (h2.1.symm.trans z))
        simp [e, ne]
include inj in
theorem GR.repl {k : Ky} (hk : P k) {v : V} {d : D} (hv : VR G W H v d) : ∀ {kvs : List (κ × V)} {gs : List (Ky × D)}, GR G W H f P kvs gs → GR G W H f P (kvs.map fun kv => if kv.1 = f k then (kv.1, v) else kv) (gs.map fun p => if p.1 = k then (p.1, d) else p)
  | [], [], h => h
  | [], _ :: _, h => by have := h.2.1; simp at this
  | _ :: _, [], h => by have := h.2.1; simp at this
  | (a, v') :: kvs, (b, d') :: gs, ⟨h1, h2, h3⟩ => by
    simp only [List.map_cons, List.cons.injEq] at h2 h3
    cases h3 with
    | cons hv' ht =>
      obtain ⟨i1, i2, i3⟩ := GR.repl hk hv (kvs := kvs) (gs := gs) ⟨fun p hp => h1 p (List.mem_cons_of_mem _ hp), h2.2, ht⟩
      have pb : P b := h1 (b, d') List.mem_cons_self
      by_cases e : b = k
      · subst e
        have ea : a = f b := h2.1
        simp only [List.map_cons, if_pos ea, if_true]
        refine ⟨fun p hp => ?_, ?_, ?_⟩
        · rcases List.mem_cons.mp hp with rfl | hp
          · exact pb
          · exact i1 p hp
        · simp only [List.map_cons]; rw [i2, ea]
        · simp only [List.map_cons]; exact .cons hv i3
      · have ne : ¬ a = f k := fun z => e (inj b k pb hk (h2.1.symm.trans z))
        simp only [List.map_cons, if_neg ne, if_neg e]
        refine ⟨fun p hp => ?_, ?_, ?_⟩
        · rcases List.mem_cons.mp hp with rfl | hp
          · exact pb
          · exact i1 p hp
        · simp only [List.map_cons]; rw [i2, h2.1]
        · simp only [List.map_cons]; exact .cons hv' i3
include inj in
theorem GR.put {k : Ky} (hk : P k) {v : V} {d : D} (hv : VR G W H v d) {kvs : List (κ × V)} {gs : List (Ky × D)} (h : GR G W H f P kvs gs) : GR G W H f P (L2.putK kvs (f k) v) (M.putK gs k d) := by
  unfold L2.putK M.putK
  rw [GR.any inj hk h]
  split
  · exact GR.repl inj hk hv h
  · obtain ⟨h1, h2, h3⟩ := h
    refine ⟨fun p hp => ?_, ?_, ?_⟩
    · rcases List.mem_append.mp hp with hp | hp
      · exact h1 p hp
      · simp at hp; subst hp; exact hk
    · simp [h2]
    · simp only [List.map_append, List.map_cons, List.map_nil]; exact h3.snoc hv
include inj in
theorem GR.drop {k : Ky} (hk : P k) : ∀ {kvs : List (κ × V)} {gs : List (Ky × D)}, GR G W H f P kvs gs → GR G W H f P (L2.dropK kvs (f k)) (M.dropK gs k)
  | [], [], h => h
  | [], _ :: _, h => by have := h.2.1; simp at this
  | _ :: _, [], h => by have := h.2.1; simp at this
  | (a, v') :: kvs, (b, d') :: gs, ⟨h1, h2, h3⟩ => by
    simp only [List.map_cons, List.cons.injEq] at h2 h3
    cases h3 with
    | cons hv' ht =>
      obtain ⟨i1, i2, i3⟩ := GR.drop hk (kvs := kvs) (gs := gs) ⟨fun p hp => h1 p (List.mem_cons_of_mem _ hp), h2.2, ht⟩
      have pb : P b := h1 (b, d') List.mem_cons_self
      unfold L2.dropK M.dropK at *
      by_cases e : b = k
      · subst e
        have ea : a = f b := h2.1
        simp only [List.filter_cons]
        rw [if_neg (by simp [ea]), if_neg (by simp)]
        exact ⟨i1, i2, i3⟩
      · have ne : ¬ a = f k := fun z => e (inj b k pb hk (h2.1.symm.trans z))
        simp only [List.filter_cons]
        rw [if_pos (by simp [ne]), if_pos (by simp [e])]
        refine ⟨fun p hp => ?_, ?_, ?_⟩
        · rcases List.mem_cons.mp hp with rfl | hp
          · exact pb
          · exact i1 p hp
        · simp only [List.map_cons]; rw [i2, h2.1]
        · simp only [List.map_cons]; exact .cons hv' i3
theorem GR.length {kvs : List (κ × V)} {gs : List (Ky × D)} (h : GR G W H f P kvs gs) : kvs.length = gs.length := by
  have := congrArg List.length h.2.1
  simpa using this
end
abbrev PK0 (k : Ky) : Prop := k.t = false ∧ kyOk k = true
abbrev PT0 (k : Ky) : Prop := k.t = true ∧ kyOk k = true
theorem inj_k : ∀ a b, PK0 a → PK0 b → keyK a = keyK b → a = b
  | .i a, .i b, _, _, h => by simp [keyK] at h; rw [h]
  | .i a, .s b, _, _, h => by simp [keyK] at h
  | .s a, .i b, _, _, h => by simp [keyK] at h
  | .s a, .s b, _, _, h => by simp only [keyK, Sum.inr.injEq] at h; rw [tx_inj h]
  | .p _, _, h, _, _ => by simp [PK0, Ky.t] at h
  | _, .p _, _, h, _ => by simp [PK0, Ky.t] at h
theorem atom_inj : ∀ {a b : Sum Int Tx}, atomKey a = atomKey b → a = b
  | .inl a, .inl b, h => by simp [atomKey] at h; rw [h]
  | .inl a, .inr b, h => by simp [atomKey] at h
  | .inr a, .inl b, h => by simp [atomKey] at h
  | .inr a, .inr b, h => by simp only [atomKey, Sum.inr.injEq] at h; rw [tx_inj h]
theorem atoms_inj : ∀ {a b : List (Sum Int Tx)}, a.map atomKey = b.map atomKey → a = b
  | [], [], _ => rfl
  | [], _ :: _, h => by simp at h
  | _ :: _, [], h => by simp at h
  | a :: as, b :: bs, h => by
    simp only [List.map_cons, List.cons.injEq] at h
    rw [atom_inj h.1, atoms_inj h.2]
theorem inj_t : ∀ a b, PT0 a → PT0 b → keyT a = keyT b → a = b
  | .p a, .p b, _, _, h => by rw [atoms_inj h]
  | .i _, _, h, _, _ => by simp [PT0, Ky.t] at h
  | .s _, _, h, _, _ => by simp [PT0, Ky.t] at h
  | _, .i _, _, h, _ => by simp [PT0, Ky.t] at h
  | _, .s _, _, h, _ => by simp [PT0, Ky.t] at h
section
variable {G : G0} {W : Wd} {H : Hp} {s : S} {v : V} {d : D}
theorem atomsK_v : ∀ {ds : List D} {as : List (Sum Int Tx)} {vs : List V}, atomsK ds = some as → VRs G W H vs ds → vs = (as.map atomKey).map kV ∧ (as.all fun k => match k with | .inl _ => true | .inr x => okT x) = true
  | [], as, vs, e, h => by cases e; cases h; exact ⟨rfl, rfl⟩
  | d :: ds, as, vs, e, h => by
    cases h with
    | cons hv ht =>
      cases e1 : atomK d with
      | none => simp [atomsK, e1] at e
      | some a =>
        cases e2 : atomsK ds with
        | none => simp [atomsK, e1, e2] at e
        | some as' =>
          simp only [atomsK, e1, e2] at e
          cases e
          obtain ⟨i1, i2⟩ := atomsK_v e2 ht
          cases d with
          | int n => cases e1; cases hv.int_; exact ⟨by rw [i1]; rfl, by simpa using i2⟩
          | str x =>
            cases e1
            obtain ⟨rfl, o⟩ := hv.str_
            refine ⟨by rw [i1]; rfl, ?_⟩
            rw [List.all_cons, i2, Bool.and_true]
            exact o
          | _ => cases e1
theorem toKy_v {k : Ky} (e : toKy d = some k) (h : VR G W H v d) : kyOk k = true ∧ (k.t = false → v = kV (keyK k)) ∧ (k.t = true → ∃ b, v = .ref b ∧ H b = some (.tup ((keyT k).map kV))) := by
  cases d with
  | int n => cases e; cases h.int_; exact ⟨rfl, fun _ => rfl, fun z => by cases z⟩
  | str x => cases e; obtain ⟨rfl, o⟩ := h.str_; exact ⟨o, fun _ => rfl, fun z => by cases z⟩
  | tup ds =>
    cases h with
    | tup q t =>
      cases e2 : atomsK ds with
      | none => simp [toKy, e2] at e
      | some as =>
        simp only [toKy, e2, Option.map_some, Option.some.injEq] at e
        subst e
        obtain ⟨i1, i2⟩ := atomsK_v e2 t
        refine ⟨i2, ?_, fun _ => ⟨_, rfl, by rw [q, i1]; rfl⟩⟩
        intro z
        simp [Ky.t] at z
  | _ => simp [toKy] at e
theorem keyOf_some {t : Bool} {x : D} {k : Ky} (e : keyOf t x = some k) : toKy x = some k ∧ k.t = t := by
  unfold M.keyOf at e
  cases h : toKy x with
  | none => rw [h] at e; cases e
  | some q =>
    rw [h] at e
    simp only [Option.bind_some] at e
    split at e
    · rename_i c; cases e; exact ⟨rfl, by simpa using c⟩
    · cases e
/-- what a dict holds at a key -/
theorem DcR.get {a : Addr} {t : Bool} {gs : List (Ky × D)} (h : DcR G W H a t gs) {k : Ky} {x : D} {y : V} (e : keyOf t x = some k) (hy : VR G W H y x) : ∃ o, DGet H a y o ∧ OR G W H o (getK gs k) := by
  obtain ⟨e1, e2⟩ := keyOf_some e
  obtain ⟨ok, h1, h2⟩ := toKy_v e1 hy
  cases h with
  | @k kvs _ q r =>
    rw [h1 e2]
    exact ⟨_, .inl ⟨kvs, keyK k, q, rfl, rfl⟩, GR.get (f := keyK) (P := PK0) inj_k ⟨e2, ok⟩ r⟩
  | @t kvs _ q r =>
    obtain ⟨b, rfl, hb⟩ := h2 e2
    exact ⟨_, .inr ⟨kvs, keyT k, b, q, rfl, hb, rfl⟩, GR.get (f := keyT) (P := PT0) inj_t ⟨e2, ok⟩ r⟩
end

/-! ### plain data -/
mutual
def toPy : D → PyData
  | .bl b => .bool b
  | .int i => .int i
  | .str x => .str (tx x)
  | .tup xs => .tuple (toPys xs)
  | .lst xs => .list (toPys xs)
  | _ => .none
def toPys : List D → List PyData
  | [] => []
  | x :: xs => toPy x :: toPys xs
end
theorem toPys_map : ∀ xs : List D, toPys xs = xs.map toPy
  | [] => rfl
  | x :: xs => by rw [toPys, List.map_cons, toPys_map xs]
section
variable {G : G0} {W : Wd} {H : Hp} {s : S}
mutual
theorem dp_of : ∀ {n : Nat} {d : D} {v : V}, plainD n d = true → VR G W H v d → Dp G.K H v (toPy d)
  | _, .non, v, _, h => by cases h; exact .non
  | _, .bl b, v, _, h => by cases h; exact .bl b
  | _, .int b, v, _, h => by cases h; exact .int b
  | _, .str b, v, _, h => by cases h; exact .str _
  | n + 1, .tup xs, v, p, h => by
    cases h with
    | tup q t =>
      rw [plainD] at p
      rw [toPy]
      exact .tup (.inl (.inl q)) (dps_of p t)
  | n + 1, .lst xs, v, p, h => by
    cases h with
    | lst z q t =>
      rw [plainD] at p
      rw [toPy]
      exact .lst (.inl q) (dps_of p t)
  | 0, .tup xs, v, p, h => by simp [plainD] at p
  | 0, .lst xs, v, p, h => by simp [plainD] at p
  | _, .dct .., v, p, h => by simp [plainD] at p
  | _, .ins .., v, p, h => by simp [plainD] at p
  | _, .rg .., v, p, h => by simp [plainD] at p
  | _, .exc .., v, p, h => by simp [plainD] at p
  | _, .scr .., v, p, h => by simp [plainD] at p
theorem dps_of : ∀ {n : Nat} {ds : List D} {vs : List V}, plainDs n ds = true → VRs G W H vs ds → DpAll G.K H vs (toPys ds)
  | _, [], vs, _, h => by cases h; exact .nil
  | n, d :: ds, vs, p, h => by
    cases h with
    | cons hv ht =>
      rw [plainDs, Bool.and_eq_true] at p
      rw [toPys]
      exact .cons (dp_of p.1 hv) (dps_of p.2 ht)
end
mutual
theorem lay_of : ∀ {n : Nat} {d : D} {v : V}, plainD n d = true → VR G W H v d → (toPy d).canLay0 = true ∧ (toPy d).depth ≤ n
  | _, .non, v, _, h => by simp [toPy, PyData.canLay0, PyData.depth]
  | _, .bl b, v, _, h => by simp [toPy, PyData.canLay0, PyData.depth]
  | _, .int b, v, _, h => by simp [toPy, PyData.canLay0, PyData.depth]
  | _, .str b, v, _, h => by
    obtain ⟨_, o⟩ := h.str_
    simp only [toPy, PyData.canLay0, PyData.depth]
    refine ⟨?_, Nat.zero_le _⟩
    show (tx b).cps.all (· < 0x110000) = true
    unfold okT at o
    simpa [tx] using o
  | n + 1, .tup xs, v, p, h => by
    cases h with
    | tup q t =>
      rw [plainD] at p
      obtain ⟨i1, i2⟩ := lays_of p t
      simp only [toPy, PyData.canLay0, PyData.depth]
      exact ⟨i1, Nat.succ_le_succ i2⟩
  | n + 1, .lst xs, v, p, h => by
    cases h with
    | lst z q t =>
      rw [plainD] at p
      obtain ⟨i1, i2⟩ := lays_of p t
      simp only [toPy, PyData.canLay0, PyData.depth]
      exact ⟨i1, Nat.succ_le_succ i2⟩
  | 0, .tup xs, v, p, h => by simp [plainD] at p
  | 0, .lst xs, v, p, h => by simp [plainD] at p
  | _, .dct .., v, p, h => by simp [plainD] at p
  | _, .ins .., v, p, h => by simp [plainD] at p
  | _, .rg .., v, p, h => by simp [plainD] at p
  | _, .exc .., v, p, h => by simp [plainD] at p
  | _, .scr .., v, p, h => by simp [plainD] at p
theorem lays_of : ∀ {n : Nat} {ds : List D} {vs : List V}, plainDs n ds = true → VRs G W H vs ds → PyData.canLayAll0 (toPys ds) = true ∧ PyData.depthAll (toPys ds) ≤ n
  | _, [], vs, _, h => by simp [toPys, PyData.canLayAll0, PyData.depthAll]
  | n, d :: ds, vs, p, h => by
    cases h with
    | cons hv ht =>
      rw [plainDs, Bool.and_eq_true] at p
      obtain ⟨a1, a2⟩ := lay_of p.1 hv
      obtain ⟨b1, b2⟩ := lays_of p.2 ht
      simp only [toPys, PyData.canLayAll0, PyData.depthAll]
      exact ⟨by rw [a1, b1]; rfl, Nat.max_le.mpr ⟨a2, b2⟩⟩
end
/-- through the cells of lists -/
theorem rd_of_rg {n k : Nat} : rd s (n + 1) (.rg k) = (match cellAt s k with | some (.lst xs) => .lst (xs.map (rd s n)) | _ => .rg k) := by
  first
  | (rw [rd]; done)
  | (rw [rd]; cases cellAt s k with
      | none => rfl
      | some c => cases c <;> rfl)
theorem rd_plain {d : D} (h : ∀ k, d ≠ .rg k) : ∀ n, rd s n d = d
  | 0 => by cases d <;> rfl
  | n + 1 => by cases d <;> first | rfl | exact absurd rfl (h _)
theorem rd_dp (r : Rel G W s H) : ∀ {m n : Nat} {d : D} {v : V}, plainD n (rd s m d) = true → VR G W H v d → Dp G.K H v (toPy (rd s m d)) ∧ (toPy (rd s m d)).canLay0 = true ∧ (toPy (rd s m d)).depth ≤ n := by
  intro m
  induction m with
  | zero =>
    intro n d v p h
    have e : rd s 0 d = d := by cases d <;> rfl
    rw [e] at p ⊢
    exact ⟨dp_of p h, lay_of p h⟩
  | succ m ih =>
    intro n d v p h
    by_cases hr : ∃ k, d = .rg k
    · obtain ⟨k, rfl⟩ := hr
      rw [rd_of_rg] at p ⊢
      cases hc : cellAt s k with
      | none => rw [hc] at p; cases n <;> simp [plainD] at p
      | some c =>
        cases c with
        | lst xs =>
          rw [hc] at p
          simp only at p ⊢
          obtain ⟨a, u, rfl, _, q, z⟩ := r.rg h hc
          cases q with
          | @lst vs _ q =>
            cases n with
            | zero => simp [plainD] at p
            | succ n =>
              rw [plainD] at p
              have all : ∀ {ys : List D} {ws : List V}, plainDs n (ys.map (rd s m)) = true → VRs G W H ws ys → DpAll G.K H ws (toPys (ys.map (rd s m))) ∧ PyData.canLayAll0 (toPys (ys.map (rd s m))) = true ∧ PyData.depthAll (toPys (ys.map (rd s m))) ≤ n := by
                intro ys
                induction ys with
                | nil => intro ws _ h; cases h; exact ⟨.nil, by simp [toPys, PyData.canLayAll0], by simp [toPys, PyData.depthAll]⟩
                | cons y ys ih2 =>
                  intro ws p h
                  cases h with
                  | cons hv ht =>
                    rw [List.map_cons, plainDs, Bool.and_eq_true] at p
                    obtain ⟨a1, a2, a3⟩ := ih p.1 hv
                    obtain ⟨b1, b2, b3⟩ := ih2 p.2 ht
                    rw [List.map_cons, toPys]
                    refine ⟨.cons a1 b1, ?_, ?_⟩
                    · simp only [PyData.canLayAll0]; rw [a2, b2]; rfl
                    · simp only [PyData.depthAll]; exact Nat.max_le.mpr ⟨a3, b3⟩
              obtain ⟨a1, a2, a3⟩ := all p q
              rw [toPy]
              exact ⟨.lst (.inl z) a1, by simp only [PyData.canLay0]; exact a2, by simp only [PyData.depth]; exact Nat.succ_le_succ a3⟩
        | _ => rw [hc] at p; cases n <;> simp [plainD] at p
    · have hr' : ∀ k, d ≠ .rg k := fun k e => hr ⟨k, e⟩
      rw [rd_plain hr'] at p ⊢
      exact ⟨dp_of p h, lay_of p h⟩
end
theorem plainD_ins {n : Nat} {d : D} (h : plainD n d = true) : d = .non ∨ (∃ b, d = .bl b) ∨ (∃ i, d = .int i) ∨ (∃ x, d = .str x) ∨ (∃ xs, d = .tup xs) ∨ ∃ xs, d = .lst xs := by
  cases d with
  | non => exact .inl rfl
  | bl b => exact .inr (.inl ⟨b, rfl⟩)
  | int i => exact .inr (.inr (.inl ⟨i, rfl⟩))
  | str x => exact .inr (.inr (.inr (.inl ⟨x, rfl⟩)))
  | tup xs => exact .inr (.inr (.inr (.inr (.inl ⟨xs, rfl⟩))))
  | lst xs => exact .inr (.inr (.inr (.inr (.inr ⟨xs, rfl⟩))))
  | _ => cases n <;> simp [plainD] at h
theorem plainD_tup {n : Nat} {xs : List D} (h : plainD n (.tup xs) = true) : ∃ k, plainDs k xs = true := by
  cases n with
  | zero => simp [plainD] at h
  | succ n => rw [plainD] at h; exact ⟨n, h⟩
theorem plainD_lst {n : Nat} {xs : List D} (h : plainD n (.lst xs) = true) : ∃ k, plainDs k xs = true := by
  cases n with
  | zero => simp [plainD] at h
  | succ n => rw [plainD] at h; exact ⟨n, h⟩
theorem str_beq (x y : Tx) : (tx x == tx y) = (x == y) := by
  rw [Bool.eq_iff_iff]
  simp only [beq_iff_eq]
  exact tx_eq
mutual
theorem eqD_eqv : ∀ (a b : D) (n m : Nat), plainD n a = true → plainD m b = true → PyData.eqv (toPy a) (toPy b) = eqD a b
  | .tup xs, b, n, m, p, q => by
    obtain ⟨k, pk⟩ := plainD_tup p
    rcases plainD_ins q with rfl | ⟨y, rfl⟩ | ⟨y, rfl⟩ | ⟨y, rfl⟩ | ⟨y, rfl⟩ | ⟨y, rfl⟩ <;> simp only [toPy, PyData.eqv, eqD]
    obtain ⟨k', pk'⟩ := plainD_tup q
    exact eqDs_eqv xs y k k' pk pk'
  | .lst xs, b, n, m, p, q => by
    obtain ⟨k, pk⟩ := plainD_lst p
    rcases plainD_ins q with rfl | ⟨y, rfl⟩ | ⟨y, rfl⟩ | ⟨y, rfl⟩ | ⟨y, rfl⟩ | ⟨y, rfl⟩ <;> simp only [toPy, PyData.eqv, eqD]
    obtain ⟨k', pk'⟩ := plainD_lst q
    exact eqDs_eqv xs y k k' pk pk'
  | .non, b, n, m, p, q => by
    rcases plainD_ins q with rfl | ⟨y, rfl⟩ | ⟨y, rfl⟩ | ⟨y, rfl⟩ | ⟨y, rfl⟩ | ⟨y, rfl⟩ <;> simp only [toPy, PyData.eqv, eqD]
  | .bl x, b, n, m, p, q => by
    rcases plainD_ins q with rfl | ⟨y, rfl⟩ | ⟨y, rfl⟩ | ⟨y, rfl⟩ | ⟨y, rfl⟩ | ⟨y, rfl⟩ <;> simp only [toPy, PyData.eqv, eqD]
    cases x <;> rfl
  | .int x, b, n, m, p, q => by
    rcases plainD_ins q with rfl | ⟨y, rfl⟩ | ⟨y, rfl⟩ | ⟨y, rfl⟩ | ⟨y, rfl⟩ | ⟨y, rfl⟩ <;> simp only [toPy, PyData.eqv, eqD]
    cases y <;> rfl
  | .str x, b, n, m, p, q => by
    rcases plainD_ins q with rfl | ⟨y, rfl⟩ | ⟨y, rfl⟩ | ⟨y, rfl⟩ | ⟨y, rfl⟩ | ⟨y, rfl⟩ <;> simp only [toPy, PyData.eqv, eqD]
    exact str_beq x y
  | .dct .., b, n, m, p, q => by cases n <;> simp [plainD] at p
  | .ins .., b, n, m, p, q => by cases n <;> simp [plainD] at p
  | .rg .., b, n, m, p, q => by cases n <;> simp [plainD] at p
  | .exc .., b, n, m, p, q => by cases n <;> simp [plainD] at p
  | .scr .., b, n, m, p, q => by cases n <;> simp [plainD] at p
theorem eqDs_eqv : ∀ (a b : List D) (n m : Nat), plainDs n a = true → plainDs m b = true → PyData.eqvAll (toPys a) (toPys b) = eqDs a b
  | [], [], n, m, p, q => by simp only [toPys, PyData.eqvAll, eqDs]
  | [], _ :: _, n, m, p, q => by simp only [toPys, PyData.eqvAll, eqDs]
  | _ :: _, [], n, m, p, q => by simp only [toPys, PyData.eqvAll, eqDs]
  | a :: as, b :: bs, n, m, p, q => by
    rw [plainDs, Bool.and_eq_true] at p q
    simp only [toPys, PyData.eqvAll, eqDs]
    rw [eqD_eqv a b n m p.1 q.1, eqDs_eqv as bs n m p.2 q.2]
end
end MS

set_option Elab.async false
set_option linter.all false
set_option maxRecDepth 100000
set_option maxHeartbeats 400000
set_option autoImplicit false
/-! S5: comparisons, truth, places, slices. -/
namespace MS
open PySem L2 M

section
variable {G : G0} {X : Cx} {pins : List (Addr × Obj)} {σ : L2.St} {H : Hp} {s : Shared} {W : Wd} {ms : S}
theorem rds_dp (r : Rel G W ms H) {m n : Nat} : ∀ {ys : List D} {ws : List V}, plainDs n (ys.map (rd ms m)) = true → VRs G W H ws ys → DpAll G.K H ws (toPys (ys.map (rd ms m))) ∧ PyData.canLayAll0 (toPys (ys.map (rd ms m))) = true ∧ PyData.depthAll (toPys (ys.map (rd ms m))) ≤ n
  | [], _, _, h => by cases h; exact ⟨.nil, by simp [toPys, PyData.canLayAll0], by simp [toPys, PyData.depthAll]⟩
  | y :: ys, _, p, h => by
    cases h with
    | cons hv ht =>
      rw [List.map_cons, plainDs, Bool.and_eq_true] at p
      obtain ⟨a1, a2, a3⟩ := rd_dp r p.1 hv
      obtain ⟨b1, b2, b3⟩ := rds_dp r p.2 ht
      rw [List.map_cons, toPys]
      refine ⟨.cons a1 b1, ?_, ?_⟩
      · simp only [PyData.canLayAll0]; rw [a2, b2]; rfl
      · simp only [PyData.depthAll]; exact Nat.max_le.mpr ⟨a3, b3⟩
theorem shaped_of {d : PyData} {n : Nat} (h : d.canLay0 = true) (hn : d.depth ≤ n) (h64 : n ≤ 64) : SeqAt.shaped d = true := by
  unfold SeqAt.shaped
  rw [h, Bool.true_and]
  exact decide_eq_true (Nat.le_trans hn h64)
theorem plainDs_mem {n : Nat} : ∀ {xs : List D}, plainDs n xs = true → ∀ x ∈ xs, plainD n x = true
  | [], _, x, h => by cases h
  | y :: ys, p, x, h => by
    rw [plainDs, Bool.and_eq_true] at p
    rcases List.mem_cons.mp h with rfl | h
    · exact p.1
    · exact plainDs_mem p.2 x h
theorem any_congr_mem {α : Type} {p q : α → Bool} : ∀ {l : List α}, (∀ x ∈ l, p x = q x) → l.any p = l.any q
  | [], _ => rfl
  | x :: l, h => by rw [List.any_cons, List.any_cons, h x List.mem_cons_self, any_congr_mem fun y hy => h y (List.mem_cons_of_mem _ hy)]
theorem any_eqv {n m : Nat} {zs : List D} {x : D} (pz : plainDs n zs = true) (px : plainD m x = true) : (toPys zs).any (fun y => PyData.eqv y (toPy x)) = zs.any fun z => eqD z x := by
  rw [toPys_map, List.any_map]
  exact any_congr_mem fun z hz => eqD_eqv z x n m (plainDs_mem pz z hz) px
def cop : COp → CmpOp
  | .eq => .Eq
  | .ne => .NotEq
  | .lt => .Lt
  | .le => .LtE
  | .gt => .Gt
  | .ge => .GtE
  | .isN => .Is
  | .notN => .IsNot
  | .inn => .In
  | .nin => .NotIn
theorem VR.nn {v : V} {d : D} (h : VR G W H v d) (n : d ≠ .non) : v ≠ .non := by
  intro e
  subst e
  cases h
  exact n rfl
theorem op_inn (neg : Bool) (hK : X.K = G.K) (hu : X.A.units + 65 < cLine) {x y : V} {v u : Value} {dx dy : D} {b : Bool} {Q : VK} (I : Inv X pins σ H s) (rx : RelV x v) (ry : RelV y u) (R : Rel G W ms H) (vx : VR G W H x dx) (vy : VR G W H y dy) (e : inD ms dx dy = some b) (q : Q (.bl (if neg then !b else b)) H) :
    wpAny (model X.prog X.w) X.A (compareOp (if neg then .NotIn else .In) v u) (EP X pins σ Q) X.xe s := by
  by_cases hs : ∃ z, dy = .str z
  · obtain ⟨z, rfl⟩ := hs
    obtain ⟨rfl, _⟩ := vy.str_
    simp only [inD] at e
    cases dx with
    | str w =>
      match w, e with
      | [c], e =>
        obtain ⟨rfl, _⟩ := vx.str_
        simp only [Option.some.injEq] at e
        subst e
        cases neg with
        | false => exact op_in_sign pins s σ H _ _ v u Q I rx ry ⟨c, tx z, rfl, rfl, by rw [tx_cps]; exact q⟩
        | true => exact op_notIn_sign pins s σ H _ _ v u Q I rx ry ⟨c, tx z, rfl, rfl, by rw [tx_cps]; exact q⟩
      | [], e => simp at e
      | _ :: _ :: _, e => simp at e
    | _ => simp at e
  · have e' : (match dctOf ms dy with
      | some (t, kvs) => (keyOf t dx).map fun k => (getK kvs k).isSome
      | none => match seqOf ms dy with
        | some ys => if plainD 6 (rd ms 3 dx) && plainDs 6 (ys.map (rd ms 3)) then some ((ys.map (rd ms 3)).any fun z => eqD z (rd ms 3 dx)) else none
        | none => none) = some b := by
      rw [← e]
      cases dy <;> first | rfl | exact absurd ⟨_, rfl⟩ hs
    cases hd : dctOf ms dy with
    | some p =>
      obtain ⟨t, gs⟩ := p
      rw [hd] at e'
      simp only at e'
      cases hk : keyOf t dx with
      | none => rw [hk] at e'; cases e'
      | some k =>
        rw [hk] at e'
        simp only [Option.map_some, Option.some.injEq] at e'
        subst e'
        obtain ⟨a, rfl, dc⟩ := dct_of R vy hd
        cases ry
        obtain ⟨o, g, oo⟩ := dc.get hk vx
        have ho : o.isSome = (getK gs k).isSome := by
          cases o <;> cases hh : getK gs k <;> rw [hh] at oo <;> first | rfl | exact oo.elim
        have hu1 : X.A.units + 1 < cLine := by omega
        cases neg with
        | false => exact d_in hu1 I g rx fun s' I' => EP.mk (v := .bl o.isSome) I' rfl (by rw [ho]; exact q)
        | true => exact d_notIn hu1 I g rx fun s' I' => EP.mk (v := .bl (!o.isSome)) I' rfl (by rw [ho]; exact q)
    | none =>
      rw [hd] at e'
      simp only at e'
      cases hq : seqOf ms dy with
      | none => rw [hq] at e'; cases e'
      | some ys =>
        rw [hq] at e'
        simp only at e'
        split at e'
        · rename_i c
          rw [Bool.and_eq_true] at c
          simp only [Option.some.injEq] at e'
          subst e'
          obtain ⟨x1, x2, x3⟩ := rd_dp R c.1 vx
          obtain ⟨a, ws, rfl, hsq, hw⟩ := seq_of R vy hq
          obtain ⟨y1, y2, y3⟩ := rds_dp R c.2 hw
          rw [← any_eqv c.2 c.1] at q
          rw [← hK] at x1 y1 hsq
          obtain ⟨as, r1⟩ := Dp.reads I _ x v x1 rx
          have room : X.A.units + 1 + min (PyData.depthAll (toPys (ys.map (rd ms 3)))) (toPy (rd ms 3 dx)).depth < cLine := by
            have := Nat.min_le_right (PyData.depthAll (toPys (ys.map (rd ms 3)))) (toPy (rd ms 3 dx)).depth
            omega
          rcases hsq with hsq | hsq
          · obtain ⟨bs, r2⟩ := Dp.reads I _ _ u (.lst hsq y1) ry
            cases neg with
            | false => exact SeqAt.in_list_reads r2 r1 y2 x2 room (EP.mk (v := .bl _) I rfl q)
            | true => exact SeqAt.notIn_list_reads r2 r1 y2 x2 room (EP.mk (v := .bl _) I rfl q)
          · obtain ⟨bs, r2⟩ := Dp.reads I _ _ u (.tup hsq y1) ry
            cases neg with
            | false => exact SeqAt.in_tuple_reads r2 r1 y2 x2 room (EP.mk (v := .bl _) I rfl q)
            | true => exact SeqAt.notIn_tuple_reads r2 r1 y2 x2 room (EP.mk (v := .bl _) I rfl q)
        · cases e'
theorem op_eqn (neg : Bool) (hK : X.K = G.K) (hu : X.A.units + 65 < cLine) {x y : V} {v u : Value} {dx dy : D} {Q : VK} (I : Inv X pins σ H s) (rx : RelV x v) (ry : RelV y u) (R : Rel G W ms H) (vx : VR G W H x dx) (vy : VR G W H y dy)
    (c : (plainD 8 (rd ms 3 dx) && plainD 8 (rd ms 3 dy)) = true) (q : Q (.bl (if neg then !eqD (rd ms 3 dx) (rd ms 3 dy) else eqD (rd ms 3 dx) (rd ms 3 dy))) H) :
    wpAny (model X.prog X.w) X.A (compareOp (if neg then .NotEq else .Eq) v u) (EP X pins σ Q) X.xe s := by
  rw [Bool.and_eq_true] at c
  obtain ⟨x1, x2, x3⟩ := rd_dp R c.1 vx
  obtain ⟨y1, y2, y3⟩ := rd_dp R c.2 vy
  rw [← eqD_eqv _ _ 8 8 c.1 c.2] at q
  rw [← hK] at x1 y1
  have hu2 : X.A.units + 64 < cLine := by omega
  cases neg with
  | false => exact op_eqD hu2 pins s σ H x y v u Q I rx ry ⟨_, _, x1, y1, shaped_of x2 x3 (by decide), shaped_of y2 y3 (by decide), q⟩
  | true => exact op_neD hu2 pins s σ H x y v u Q I rx ry ⟨_, _, x1, y1, shaped_of x2 x3 (by decide), shaped_of y2 y3 (by decide), q⟩
theorem op_cmp (hK : X.K = G.K) (hu : X.A.units + 65 < cLine) (o : COp) : OpR X (compareOp (cop o)) (rB G fun s x y => (cmpD s o x y).map .bl) := by
  intro pins s σ H x y v u Q I rx ry ⟨W, ms, dx, dy, d, R, vx, vy, e, q⟩
  obtain ⟨b, eb, rfl⟩ : ∃ b, cmpD ms o dx dy = some b ∧ d = .bl b := by
    have e' : (cmpD ms o dx dy).map D.bl = some d := e
    cases h : cmpD ms o dx dy with
    | none => rw [h] at e'; cases e'
    | some b => rw [h] at e'; cases e'; exact ⟨b, rfl, rfl⟩
  have fin : Q (.bl b) H := q W _ H (Ext.refl W) (Keeps.refl W H) R (.bl b)
  have hin : ∀ (f : Int → Int → Bool), (∀ i j, dx = .int i → dy = .int j → b = f i j) → (∃ i j, dx = .int i ∧ dy = .int j) → ∃ i j, x = .int i ∧ y = .int j ∧ Q (.bl (f i j)) H := by
    rintro f hf ⟨i, j, rfl, rfl⟩
    cases vx.int_; cases vy.int_
    exact ⟨i, j, rfl, rfl, by rw [← hf i j rfl rfl]; exact fin⟩
  cases o with
  | eq =>
    simp only [cmpD] at eb
    split at eb
    · rename_i c; cases eb; exact op_eqn false hK hu I rx ry R vx vy c fin
    · cases eb
  | ne =>
    simp only [cmpD] at eb
    split at eb
    · rename_i c; cases eb; exact op_eqn true hK hu I rx ry R vx vy c fin
    · cases eb
  | inn => exact op_inn false hK hu I rx ry R vx vy eb fin
  | nin =>
    simp only [cmpD] at eb
    cases h : inD ms dx dy with
    | none => rw [h] at eb; cases eb
    | some b' => rw [h] at eb; cases eb; exact op_inn true hK hu I rx ry R vx vy h fin
  | isN =>
    cases dy with
    | non =>
      cases vy.non_
      refine op_isN pins s σ H x _ v u Q I rx ry ⟨rfl, ?_⟩
      by_cases hn : dx = .non
      · subst hn; cases vx.non_; simp only [cmpD, Option.some.injEq] at eb; subst eb; exact fin
      · rw [decide_eq_false (vx.nn hn)]
        have : b = false := by
          cases dx <;> simp only [cmpD, Option.some.injEq] at eb <;> first | exact eb.symm | exact absurd rfl hn
        rw [← this]; exact fin
    | _ => simp [cmpD] at eb
  | notN =>
    cases dy with
    | non =>
      cases vy.non_
      refine op_notN pins s σ H x _ v u Q I rx ry ⟨rfl, ?_⟩
      by_cases hn : dx = .non
      · subst hn; cases vx.non_; simp only [cmpD, Option.some.injEq] at eb; subst eb; exact fin
      · rw [decide_eq_false (vx.nn hn)]
        have : b = true := by
          cases dx <;> simp only [cmpD, Option.some.injEq] at eb <;> first | exact eb.symm | exact absurd rfl hn
        rw [← show b = !false from this]; exact fin
    | _ => simp [cmpD] at eb
  | lt =>
    refine op_lt pins s σ H x y v u Q I rx ry (hin (fun i j => decide (i < j)) (fun i j hx hy => ?_) ?_)
    · subst hx; subst hy; simp only [cmpD, Option.some.injEq] at eb; exact eb.symm
    · cases dx <;> cases dy <;> simp only [cmpD] at eb <;> first | exact ⟨_, _, rfl, rfl⟩ | cases eb
  | le =>
    refine op_le pins s σ H x y v u Q I rx ry (hin (fun i j => decide (i ≤ j)) (fun i j hx hy => ?_) ?_)
    · subst hx; subst hy; simp only [cmpD, Option.some.injEq] at eb; exact eb.symm
    · cases dx <;> cases dy <;> simp only [cmpD] at eb <;> first | exact ⟨_, _, rfl, rfl⟩ | cases eb
  | gt =>
    refine op_gt pins s σ H x y v u Q I rx ry (hin (fun i j => decide (j < i)) (fun i j hx hy => ?_) ?_)
    · subst hx; subst hy; simp only [cmpD, Option.some.injEq] at eb; exact eb.symm
    · cases dx <;> cases dy <;> simp only [cmpD] at eb <;> first | exact ⟨_, _, rfl, rfl⟩ | cases eb
  | ge =>
    refine op_ge pins s σ H x y v u Q I rx ry (hin (fun i j => decide (j ≤ i)) (fun i j hx hy => ?_) ?_)
    · subst hx; subst hy; simp only [cmpD, Option.some.injEq] at eb; exact eb.symm
    · cases dx <;> cases dy <;> simp only [cmpD] at eb <;> first | exact ⟨_, _, rfl, rfl⟩ | cases eb
/-! ### truth -/
theorem VRs.isEmpty {vs : List V} {ds : List D} (h : VRs G W H vs ds) : vs.isEmpty = ds.isEmpty := by cases h <;> rfl
theorem tru_v (R : Rel G W ms H) {v : V} {d : D} {b : Bool} (h : VR G W H v d) (e : truD ms d = some b) : TruV G.K v H b := by
  cases d with
  | non => cases e; cases h.non_; exact rfl
  | bl c => cases e; cases h.bl_; exact rfl
  | int i => cases e; cases h.int_; exact rfl
  | str x =>
    obtain ⟨rfl, _⟩ := h.str_
    simp only [truD] at e
    split at e
    · rename_i c
      cases e
      refine ⟨by rw [tx_len, ← LIM_eq]; exact c, ?_⟩
      rw [tx_len]
      cases x with
      | nil => rfl
      | cons a x => simp; omega
    · cases e
  | tup xs => cases e; cases h with | tup q t => exact .inr (.inl ⟨_, .inl (.inl q), by rw [t.isEmpty]⟩)
  | lst xs => cases e; cases h with | lst z q t => exact .inl ⟨_, .inl q, by rw [t.isEmpty]⟩
  | scr ns => cases e; cases h with | scr q => exact .inl ⟨_, scr_sq q, by cases ns <;> rfl⟩
  | rg k =>
    cases hc : cellAt ms k with
    | none => simp [truD, hc] at e
    | some c =>
      cases c with
      | lst xs =>
        simp only [truD, hc, Option.some.injEq] at e
        subst e
        obtain ⟨a, u, rfl, _, q, z⟩ := R.rg h hc
        cases q with
        | lst q => exact .inl ⟨_, .inl z, by rw [q.isEmpty]⟩
      | _ => simp [truD, hc] at e
  | _ => simp [truD] at e
/-! ### places -/
theorem ixN_eq (n : Nat) (i : Int) : M.ixN n i = L2.ixN n i := rfl
theorem atI_v {vs : List V} {ds : List D} (h : VRs G W H vs ds) {i : Int} {d : D} (e : M.atI ds i = some d) : ∃ v, L2.atI vs i = some v ∧ VR G W H v d := by
  unfold M.atI at e
  unfold L2.atI
  rw [h.length, ← ixN_eq]
  cases hk : M.ixN ds.length i with
  | none => rw [hk] at e; cases e
  | some k => rw [hk] at e; exact h.get e
theorem sub_dict (hu : X.A.units + 1 < cLine) (R : Rel G W ms H) {x y : V} {dx dy d : D} {t : Bool} {gs : List (Ky × D)} (vx : VR G W H x dx) (vy : VR G W H y dy) (hd : dctOf ms dx = some (t, gs)) (e : subD ms dx dy = some d) : ∃ a v, x = .ref a ∧ DGet H a y (some v) ∧ VR G W H v d := by
  unfold subD at e
  rw [hd] at e
  simp only at e
  cases hk : keyOf t dy with
  | none => rw [hk] at e; cases e
  | some k =>
    rw [hk] at e
    simp only [Option.bind_some] at e
    obtain ⟨a, rfl, dc⟩ := dct_of R vx hd
    obtain ⟨o, g, oo⟩ := dc.get hk vy
    rw [e] at oo
    cases o with
    | none => exact oo.elim
    | some v => exact ⟨a, v, rfl, g, oo⟩
theorem sub_seq (hK : X.K = G.K) (R : Rel G W ms H) {x y : V} {dx dy d : D} (vx : VR G W H x dx) (vy : VR G W H y dy) (hd : dctOf ms dx = none) (e : subD ms dx dy = some d) {Q : VK} (q : ∀ v, VR G W H v d → Q v H) : rIx X.K x y H Q := by
  unfold subD at e
  rw [hd] at e
  simp only at e
  cases dy with
  | int i =>
    cases vy.int_
    simp only at e
    by_cases hs : ∃ z, dx = .str z
    · obtain ⟨z, rfl⟩ := hs
      obtain ⟨rfl, o⟩ := vx.str_
      simp only at e
      split at e
      · rename_i c
        cases ha : M.atI z i with
        | none => rw [ha] at e; cases e
        | some k =>
          rw [ha] at e
          cases e
          refine .inr (.inr ⟨tx z, i, k, rfl, rfl, by rw [tx_len, ← LIM_eq]; exact c, by rw [tx_cps]; exact ha, q _ ?_⟩)
          rw [tx_one]
          refine .str _ (okT_mem o ?_)
          unfold M.atI at ha
          cases hk : M.ixN z.length i with
          | none => rw [hk] at ha; cases ha
          | some j => rw [hk] at ha; exact List.mem_of_getElem? ha
      · cases e
    · have e' : (seqOf ms dx).bind (fun xs => M.atI xs i) = some d := by
        rw [← e]
        cases dx <;> first | rfl | exact absurd ⟨_, rfl⟩ hs
      cases hq : seqOf ms dx with
      | none => rw [hq] at e'; cases e'
      | some xs =>
        rw [hq] at e'
        simp only [Option.bind_some] at e'
        obtain ⟨a, vs, rfl, hsq, hv⟩ := seq_of R vx hq
        obtain ⟨v, hv1, hv2⟩ := atI_v hv e'
        rw [← hK] at hsq
        rcases hsq with hsq | hsq
        · exact .inl ⟨a, vs, i, v, rfl, rfl, hsq, hv1, q v hv2⟩
        · exact .inr (.inl ⟨a, vs, i, v, rfl, rfl, hsq, hv1, q v hv2⟩)
  | _ => simp at e
/-! ### slices -/
theorem clip_ix (n d : Nat) (o : Option Int) : clip n d o = HT.sIx n d o := by cases o <;> rfl
theorem cut_v {vs : List V} {ds : List D} (h : VRs G W H vs ds) (lo hi : Option Int) : VRs G W H (cutV vs lo hi) (slcL ds lo hi) := by
  unfold cutV slcL
  rw [h.length]
  simp only [clip_ix]
  exact (h.drop _).take _
theorem cut_tx (z : Tx) (lo hi : Option Int) : cutS (tx z) lo hi = tx (slcL z lo hi) := by
  show (⟨(((tx z).cps.toList.drop (HT.sIx (tx z).length 0 lo)).take (HT.sIx (tx z).length (tx z).length hi - HT.sIx (tx z).length 0 lo)).toArray⟩ : Str) = tx (slcL z lo hi)
  rw [tx_cps, tx_len]
  unfold slcL tx
  simp only [clip_ix]
def rSlX (K : PySem.W.Frag) : V → Option Int → Option Int → Hp → VK → Prop := fun x lo hi H Q => (rSlL K x lo hi H Q ∨ rSlA K x lo hi H Q) ∨ rSlS x lo hi H Q
theorem sl_x : SlR X (rSlX X.K) := SlR.or (SlR.or sl_list sl_tupA) sl_str
theorem slc_v (hK : X.K = G.K) (R : Rel G W ms H) {x : V} {dx d : D} {lo hi : Option D} {l u : Option Int} (vx : VR G W H x dx) (hl : optI lo = some l) (hh : optI hi = some u) (e : slcD ms dx lo hi = some d) {Q : VK}
    (q : ∀ W' v H', Ext W W' → Keeps W H H' → Rel G W' ms H' → VR G W' H' v d → Q v H') : rSlX X.K x l u H Q := by
  unfold slcD at e
  rw [hl, hh] at e
  simp only at e
  by_cases hs : ∃ z, dx = .str z
  · obtain ⟨z, rfl⟩ := hs
    obtain ⟨rfl, o⟩ := vx.str_
    simp only at e
    split at e
    · rename_i c
      cases e
      refine .inr ⟨tx z, rfl, by rw [tx_len, ← LIM_eq]; exact c, ?_⟩
      rw [cut_tx]
      refine q W _ H (Ext.refl W) (Keeps.refl W H) R (.str _ (okT_sub o fun c hc => ?_))
      unfold slcL at hc
      exact List.mem_of_mem_drop (List.mem_of_mem_take hc)
    · cases e
  · by_cases ht : ∃ ys, dx = .tup ys
    · obtain ⟨ys, rfl⟩ := ht
      simp only [Option.some.injEq] at e
      subst e
      cases vx with
      | @tup a vs _ hq hv =>
        refine .inl (.inr ⟨a, vs, rfl, .inl (.inl hq), fun hw => ?_, fun _ p hp => ?_⟩)
        · refine q W _ H (Ext.refl W) (Keeps.refl W H) R (.tup hq ?_)
          have := cut_v hv l u
          have e2 : cutV vs l u = vs := by
            unfold cutV
            rw [hw.1, hw.2]
            simp
          rw [e2] at this
          exact this
        · obtain ⟨k1, r1, v1⟩ := newT R hp (cut_v hv l u)
          exact q W _ _ (Ext.refl W) k1 r1 v1
    · have e' : (lstOf ms dx).map (fun xs => D.lst (slcL xs l u)) = some d := by
        rw [← e]
        cases dx <;> first | rfl | exact absurd ⟨_, rfl⟩ hs | exact absurd ⟨_, rfl⟩ ht
      cases hq : lstOf ms dx with
      | none => rw [hq] at e'; cases e'
      | some xs =>
        rw [hq] at e'
        cases e'
        obtain ⟨a, vs, rfl, hr, hv⟩ := lst_of R vx hq
        refine .inl (.inl ⟨a, vs, rfl, .inl hr, fun p hp => ?_⟩)
        obtain ⟨e1, k1, r1, v1⟩ := newL R hp (cut_v hv l u)
        exact q _ _ _ e1 k1 r1 v1
end
end MS

set_option Elab.async false
set_option linter.all false
set_option maxRecDepth 100000
set_option maxHeartbeats 400000
set_option autoImplicit false
/-! S6: expressions: names, constants, displays, operators, tests, places. -/
namespace MS
open PySem L2 M

/-- what stands fast in a body -/
structure XC (G : G0) (X : Cx) (Wx : WX) : Prop where
  K : X.K = G.K
  tk : Takes X Wx
  nd : X.N.Nodup
  calm : X.calm = true
  hu : X.A.units + 65 < cLine
section
variable {G : G0} {X : Cx} {Wx : WX} {K : Calls} {pos : Pos} {a b c : DE} {ea eb ec : Expr} {σ : L2.St} {H : Hp} {Q : VK}
theorem e_var {i : Nat} {x : Str} (hN : X.N[i]? = some x) (hv : Vis X.env.scope x) (hd : (x == ("__debug__" : Str)) = false) (hcd : (x == ("__classdict__" : Str)) = false) : PE X (.Name x pos) (tE G Wx K (.var i)) := by
  refine (pe_var hN hv hd hcd).imp fun σ H Q ⟨W, s, e, R, ER, P⟩ => ?_
  simp only [evE] at P
  cases h : e[i]? with
  | none => rw [h] at P; exact P.elim
  | some o =>
    cases o with
    | none => rw [h] at P; exact P.elim
    | some d =>
      rw [h] at P
      obtain ⟨v, h1, h2⟩ := ER.at_ i d h
      exact ⟨v, h1, P.now R h2⟩
/-- constants -/
inductive ConR : D → V → Prop where
  | non : ConR .non .non
  | bl (b : Bool) : ConR (.bl b) (.bl b)
  | int (i : Int) : ConR (.int i) (.int i)
  | str (x : Tx) : okT x = true → ConR (.str x) (.str (tx x))
theorem ConR.vr {d : D} {v : V} (h : ConR d v) (W : Wd) (H : Hp) : VR G W H v d := by
  cases h with
  | non => exact .non
  | bl b => exact .bl b
  | int i => exact .int i
  | str x h => exact .str x h
theorem e_con {e : Expr} {d : D} {v : V} (he : PE X e (tC v)) (h : ConR d v) : PE X e (tE G Wx K (.con d)) := by
  refine he.imp fun σ H Q ⟨W, s, env, R, ER, P⟩ => ?_
  simp only [evE] at P
  exact P.now R (h.vr W H)
/-! two operands -/
theorem op2 {m : DE} {f : S → D → D → Option D} (hm : ∀ e s, evE K m e s = (evE K a e s).bind fun x s => (evE K b e s).bind fun y s => optR (f s x y) s) (h : tE G Wx K m σ H Q) : tOp (rB G f) (tE G Wx K a) (tE G Wx K b) σ H Q := by
  obtain ⟨W, s, e, R, ER, P⟩ := h
  rw [hm] at P
  refine ⟨W, s, e, R, ER, P.bind (rel1 := VR G) fun d s1 W1 x H1 x1 k1 R1 v1 P1 => ⟨W1, s1, e, R1, ER.mono x1 k1, P1.bind (rel1 := VR G) fun d2 s2 W2 y H2 x2 k2 R2 v2 P2 => ?_⟩⟩
  obtain ⟨r, hr, P3⟩ := P2.opt
  exact ⟨W2, s2, d, d2, r, R2, v1.mono x2 k2, v2, hr, fun W' v H' e' k' r' v' => P3 W' v H' e' k' r' v'⟩
theorem e_bin (C : XC G X Wx) {o : BOp} (ha : PE X ea (tE G Wx K a)) (hb : PE X eb (tE G Wx K b)) : PE X (.BinOp ea (bop o) eb pos) (tE G Wx K (.bin o a b)) :=
  (pe_op (op_bin (G := G) C.K o) ha hb).imp fun σ H Q h => op2 (fun e s => by simp only [evE]) h
theorem cmp_fold (o : COp) (e : M.Env) (s : S) : evE K (.cmp o a b) e s = (evE K a e s).bind fun x s => (evE K b e s).bind fun y s => optR ((cmpD s o x y).map .bl) s := by simp only [evE]
theorem e_cmp (C : XC G X Wx) {o : COp} (ha : PE X ea (tE G Wx K a)) (hb : PE X eb (tE G Wx K b)) (hm : behindInMarks (cop o) eb = false) : PE X (.Compare ea [cop o] [eb] pos) (tE G Wx K (.cmp o a b)) :=
  (pe_cmpR (op_cmp (G := G) C.K C.hu o) ha hb hm).imp fun σ H Q h => op2 (fun e s => cmp_fold o e s) h
/-- an answer: True or False -/
theorem tru_bl {r : R D} {f : D → S → R D} : True := trivial
theorem bind_assoc {α β γ : Type} (r : R α) (f : α → S → R β) (g : β → S → R γ) : (r.bind f).bind g = r.bind fun a s => (f a s).bind g := by
  cases r <;> rfl
theorem optR_bl (o : Option Bool) (s : S) : (optR (o.map D.bl) s).bind (fun d s => optR (truD s d) s) = optR o s := by
  cases o <;> rfl
theorem t_cmp (C : XC G X Wx) {o : COp} (ha : PE X ea (tE G Wx K a)) (hb : PE X eb (tE G Wx K b)) (hm : behindInMarks (cop o) eb = false) : PT X (.Compare ea [cop o] [eb] pos) (tT G Wx K (.cmp o a b)) := by
  refine (pt_cmpR (op_cmp (G := G) C.K C.hu o) ha hb hm).imp fun σ H Q h => ?_
  obtain ⟨W, s, e, R, ER, P⟩ := h
  rw [tru, cmp_fold, bind_assoc] at P
  refine ⟨W, s, e, R, ER, P.bind (rel1 := VR G) fun d s1 W1 x H1 x1 k1 R1 v1 P1 => ⟨W1, s1, e, R1, ER.mono x1 k1, ?_⟩⟩
  rw [bind_assoc] at P1
  refine P1.bind (rel1 := VR G) fun d2 s2 W2 y H2 x2 k2 R2 v2 P2 => ?_
  rw [optR_bl] at P2
  obtain ⟨r, hr, P3⟩ := P2.opt
  refine ⟨W2, s2, d, d2, .bl r, R2, v1.mono x2 k2, v2, by show (cmpD s2 o d d2).map D.bl = _; rw [hr]; rfl, fun W' v H' e' k' r' v' => ?_⟩
  cases v'.bl_
  exact ⟨r, rfl, P3 W' r H' e' k' r' rfl⟩
/-! a chain -/
theorem e_chain (C : XC G X Wx) {o p : COp} (ha : PE X ea (tE G Wx K a)) (hb : PE X eb (tE G Wx K b)) (hc : PE X ec (tE G Wx K c)) (hm : lastMarks [cop o, cop p] [eb, ec] = false) : PE X (.Compare ea [cop o, cop p] [eb, ec] pos) (tE G Wx K (.chain o p a b c)) := by
  refine (pe_chain (op_cmp (G := G) C.K C.hu o) (op_cmp (G := G) C.K C.hu p) ha hb hc hm).imp fun σ H Q ⟨W, s, e, R, ER, P⟩ => ?_
  simp only [evE] at P
  refine ⟨W, s, e, R, ER, P.bind (rel1 := VR G) fun d s1 W1 x H1 x1 k1 R1 v1 P1 => ⟨W1, s1, e, R1, ER.mono x1 k1, P1.bind (rel1 := VR G) fun d2 s2 W2 y H2 x2 k2 R2 v2 P2 => ?_⟩⟩
  cases hr : cmpD s2 o d d2 with
  | none => rw [hr] at P2; exact P2.elim
  | some r =>
    rw [hr] at P2
    refine ⟨W2, s2, d, d2, .bl r, R2, v1.mono x2 k2, v2, by show (cmpD s2 o d d2).map D.bl = _; rw [hr]; rfl, fun W' v H' e' k' r' v' => ?_⟩
    cases v'.bl_
    refine ⟨r, rfl, ?_⟩
    cases r with
    | false =>
      rw [if_neg Bool.false_ne_true]
      exact P2 W' _ H' e' k' r' (.bl false)
    | true =>
      rw [if_pos rfl]
      refine ⟨W', s2, e, r', ((ER.mono x1 k1.toKeep0).mono x2 k2.toKeep0).mono e' k'.toKeep0, ?_⟩
      have P3 : Post G (VR G) W2 H2 ((evE K c e s2).bind fun z s => optR ((cmpD s p d2 z).map .bl) s) Q (wx G Wx σ) := P2
      refine (P3.rebase e' k').bind (rel1 := VR G) fun d3 s3 W3 z H3 x3 k3 R3 v3 P4 => ?_
      obtain ⟨q, hq, P5⟩ := P4.opt
      exact ⟨W3, s3, d2, d3, q, R3, (v2.mono e' k'.toKeep0).mono x3 k3.toKeep0, v3, hq, fun W' v H' e' k' r' v' => P5 W' v H' e' k' r' v'⟩
/-- a test out of a value that is True or False -/
theorem t_of_bl {e : Expr} {m : DE} (he : PT X e (tTest (tE G Wx K m))) (hb : ∀ env s d s', evE K m env s = .ok d s' → ∃ b, d = .bl b) : PT X e (tT G Wx K m) := by
  refine he.imp fun σ H Q ⟨W, s, env, R, ER, P⟩ => ⟨W, s, env, R, ER, ?_⟩
  cases hr : evE K m env s with
  | bad => rw [tru, hr] at P; exact P.elim
  | exc c s' => rw [tru, hr] at P; exact P
  | ok d s' =>
    obtain ⟨b, rfl⟩ := hb env s d s' hr
    rw [tru, hr] at P
    intro W' v H' e' k' r' v'
    cases v'.bl_
    exact ⟨b, rfl, P W' b H' e' k' r' rfl⟩
theorem chain_bl {o p : COp} {env : M.Env} {s s' : S} {d : D} (h : evE K (.chain o p a b c) env s = .ok d s') : ∃ q, d = .bl q := by
  simp only [evE] at h
  cases h1 : evE K a env s with
  | ok x s1 =>
    rw [h1] at h
    cases h2 : evE K b env s1 with
    | ok y s2 =>
      simp only [M.R.bind, h2] at h
      cases h3 : cmpD s2 o x y with
      | none => rw [h3] at h; cases h
      | some r =>
        rw [h3] at h
        cases r with
        | false => simp at h; exact ⟨false, h.1.symm⟩
        | true =>
          simp only [optR, if_true] at h
          cases h4 : evE K c env s2 with
          | ok z s3 =>
            rw [h4] at h
            cases h5 : cmpD s3 p y z with
            | none => simp [h5] at h
            | some q => simp [h5] at h; exact ⟨q, h.1.symm⟩
          | exc k s3 => rw [h4] at h; cases h
          | bad => rw [h4] at h; cases h
    | exc k s2 => simp only [M.R.bind, h2] at h; cases h
    | bad => simp only [M.R.bind, h2] at h; cases h
  | exc k s1 => rw [h1] at h; cases h
  | bad => rw [h1] at h; cases h
/-- the chain as a test -/
theorem t_chain (C : XC G X Wx) {o p : COp} (ha : PE X ea (tE G Wx K a)) (hb : PE X eb (tE G Wx K b)) (hc : PE X ec (tE G Wx K c)) (hm : lastMarks [cop o, cop p] [eb, ec] = false) : PT X (.Compare ea [cop o, cop p] [eb, ec] pos) (tT G Wx K (.chain o p a b c)) := by
  refine t_of_bl ?_ fun env s d s' h => chain_bl h
  refine (pt_chain (op_cmp (G := G) C.K C.hu o) (op_cmp (G := G) C.K C.hu p) ha hb hc hm).imp fun σ H Q ⟨W, s, e, R, ER, P⟩ => ?_
  simp only [evE] at P
  refine ⟨W, s, e, R, ER, P.bind (rel1 := VR G) fun d s1 W1 x H1 x1 k1 R1 v1 P1 => ⟨W1, s1, e, R1, ER.mono x1 k1, P1.bind (rel1 := VR G) fun d2 s2 W2 y H2 x2 k2 R2 v2 P2 => ?_⟩⟩
  cases hr : cmpD s2 o d d2 with
  | none => rw [hr] at P2; exact P2.elim
  | some r =>
    rw [hr] at P2
    refine ⟨W2, s2, d, d2, .bl r, R2, v1.mono x2 k2, v2, by show (cmpD s2 o d d2).map D.bl = _; rw [hr]; rfl, fun W' v H' e' k' r' v' => ?_⟩
    cases v'.bl_
    refine ⟨r, rfl, ?_⟩
    cases r with
    | false =>
      rw [if_neg Bool.false_ne_true]
      exact P2 W' _ H' e' k' r' (.bl false)
    | true =>
      rw [if_pos rfl]
      refine ⟨W', s2, e, r', ((ER.mono x1 k1.toKeep0).mono x2 k2.toKeep0).mono e' k'.toKeep0, ?_⟩
      have P3 := P2
      refine (Post.rebase P3 e' k').bind (rel1 := VR G) fun d3 s3 W3 z H3 x3 k3 R3 v3 P4 => ?_
      obtain ⟨q, hq, P5⟩ := P4.opt
      exact ⟨W3, s3, d2, d3, q, R3, (v2.mono e' k'.toKeep0).mono x3 k3.toKeep0, v3, hq, fun W' v H' e' k' r' v' => P5 W' v H' e' k' r' v'⟩
/-! truth -/
theorem t_truth (hK : X.K = G.K) {e : Expr} {m : DE} (he : PE X e (tE G Wx K m)) (hi : ∀ whole, isTrue e X.env whole = (do let v ← whole; standAt e.pos; holding [v] (PySem.truthy v))) : PT X e (tT G Wx K m) := by
  refine (pt_truth he hi).imp fun σ H Q ⟨W, s, env, R, ER, P⟩ => ⟨W, s, env, R, ER, ?_⟩
  refine P.bind (rel1 := VR G) fun d s1 W1 x H1 x1 k1 R1 v1 P1 => ?_
  obtain ⟨b, hb, P2⟩ := P1.opt
  exact ⟨b, by rw [hK]; exact tru_v R1 v1 hb, P2.now R1 rfl⟩
theorem e_not (hK : X.K = G.K) (ha : PE X ea (tE G Wx K a)) : PE X (.UnaryOp .Not ea pos) (tE G Wx K (.not a)) := by
  refine (pe_notT ha).imp fun σ H Q ⟨W, s, e, R, ER, P⟩ => ⟨W, s, e, R, ER, ?_⟩
  simp only [evE, tru, bind_assoc] at P
  refine P.bind (rel1 := VR G) fun d s1 W1 x H1 x1 k1 R1 v1 P1 => ?_
  cases hb : truD s1 d with
  | none => rw [hb] at P1; exact P1.elim
  | some b =>
    rw [hb] at P1
    exact ⟨b, by rw [hK]; exact tru_v R1 v1 hb, Post.now P1 R1 (.bl _)⟩
theorem t_not (ha : PT X ea (tT G Wx K a)) : PT X (.UnaryOp .Not ea pos) (tT G Wx K (.not a)) := by
  refine (pt_not ha).imp fun σ H Q ⟨W, s, e, R, ER, P⟩ => ⟨W, s, e, R, ER, ?_⟩
  have e1 : tru (evE K (.not a) e s) = (tru (evE K a e s)).bind fun t s => .ok (!t) s := by
    simp only [evE]
    cases h : tru (evE K a e s) <;> simp [tru, truD, M.R.bind]
  rw [e1] at P
  exact P.bind (rel1 := relB) fun d s1 W1 x H1 x1 k1 R1 v1 P1 => by
    have v1' : x = d := v1
    subst v1'
    exact P1.now R1 rfl
theorem ite_bool {α : Sort _} {b : Bool} {x y z : α} (h1 : b = true → z = x) (h2 : b = false → z = y) : z = if b = true then x else y := by
  cases b
  · rw [h2 rfl]; rfl
  · rw [h1 rfl]; rfl
theorem t_and {rest : List Expr} (ha : PT X ea (tT G Wx K a)) (hb : PW X (.BoolOp .And (eb :: rest) pos) (tT G Wx K b)) : PW X (.BoolOp .And (ea :: eb :: rest) pos) (tT G Wx K (.and a b)) := by
  refine ⟨fun whole pins s σ H Q I q => (pw_and ha hb).run whole pins s σ H Q I ?_⟩
  obtain ⟨W, s, e, R, ER, P⟩ := q
  refine ⟨W, s, e, R, ER, ?_⟩
  have e1 : tru (evE K (.and a b) e s) = (tru (evE K a e s)).bind fun t s => if t = true then tru (evE K b e s) else .ok false s := by
    simp only [evE]
    cases h : evE K a e s with
    | ok d s1 =>
      simp only [tru, M.R.bind]
      cases h2 : truD s1 d with
      | none => rfl
      | some t => cases t <;> simp [h2]
    | exc c s1 => rfl
    | bad => rfl
  rw [e1] at P
  refine P.bind (rel1 := relB) fun d s1 W1 x H1 x1 k1 R1 v1 P1 => ?_
  have v1' : x = d := v1
  subst v1'
  cases x with
  | false => exact Post.now P1 R1 rfl
  | true => exact ⟨W1, s1, e, R1, ER.mono x1 k1, P1⟩
theorem t_or {rest : List Expr} (ha : PT X ea (tT G Wx K a)) (hb : PW X (.BoolOp .Or (eb :: rest) pos) (tT G Wx K b)) : PW X (.BoolOp .Or (ea :: eb :: rest) pos) (tT G Wx K (.or a b)) := by
  refine ⟨fun whole pins s σ H Q I q => (pw_or ha hb).run whole pins s σ H Q I ?_⟩
  obtain ⟨W, s, e, R, ER, P⟩ := q
  refine ⟨W, s, e, R, ER, ?_⟩
  have e1 : tru (evE K (.or a b) e s) = (tru (evE K a e s)).bind fun t s => if t = true then .ok true s else tru (evE K b e s) := by
    simp only [evE]
    cases h : evE K a e s with
    | ok d s1 =>
      simp only [tru, M.R.bind]
      cases h2 : truD s1 d with
      | none => rfl
      | some t => cases t <;> simp [h2]
    | exc c s1 => rfl
    | bad => rfl
  rw [e1] at P
  refine P.bind (rel1 := relB) fun d s1 W1 x H1 x1 k1 R1 v1 P1 => ?_
  have v1' : x = d := v1
  subst v1'
  cases x with
  | false => exact ⟨W1, s1, e, R1, ER.mono x1 k1, P1⟩
  | true => exact Post.now P1 R1 rfl
theorem e_and {rest : List Expr} (hK : X.K = G.K) (ha : PE X ea (tE G Wx K a)) (hb : PE X (.BoolOp .And (eb :: rest) pos) (tE G Wx K b)) : PE X (.BoolOp .And (ea :: eb :: rest) pos) (tE G Wx K (.and a b)) := by
  refine (pe_andT ha hb).imp fun σ H Q ⟨W, s, e, R, ER, P⟩ => ⟨W, s, e, R, ER, ?_⟩
  simp only [evE] at P
  refine P.bind (rel1 := VR G) fun d s1 W1 x H1 x1 k1 R1 v1 P1 => ?_
  cases hb : truD s1 d with
  | none => rw [hb] at P1; exact P1.elim
  | some t =>
    rw [hb] at P1
    refine ⟨t, by rw [hK]; exact tru_v R1 v1 hb, ?_⟩
    cases t with
    | false => rw [if_neg Bool.false_ne_true]; exact Post.now P1 R1 v1
    | true => rw [if_pos rfl]; exact ⟨W1, s1, e, R1, ER.mono x1 k1, P1⟩
theorem e_or {rest : List Expr} (hK : X.K = G.K) (ha : PE X ea (tE G Wx K a)) (hb : PE X (.BoolOp .Or (eb :: rest) pos) (tE G Wx K b)) : PE X (.BoolOp .Or (ea :: eb :: rest) pos) (tE G Wx K (.or a b)) := by
  refine (pe_orT ha hb).imp fun σ H Q ⟨W, s, e, R, ER, P⟩ => ⟨W, s, e, R, ER, ?_⟩
  simp only [evE] at P
  refine P.bind (rel1 := VR G) fun d s1 W1 x H1 x1 k1 R1 v1 P1 => ?_
  cases hb : truD s1 d with
  | none => rw [hb] at P1; exact P1.elim
  | some t =>
    rw [hb] at P1
    refine ⟨t, by rw [hK]; exact tru_v R1 v1 hb, ?_⟩
    cases t with
    | false => rw [if_neg Bool.false_ne_true]; exact ⟨W1, s1, e, R1, ER.mono x1 k1, P1⟩
    | true => rw [if_pos rfl]; exact Post.now P1 R1 v1
theorem e_ifx (hc : PT X ec (tT G Wx K c)) (ha : PE X ea (tE G Wx K a)) (hb : PE X eb (tE G Wx K b)) : PE X (.IfExp ec ea eb pos) (tE G Wx K (.ifx c a b)) := by
  refine (pe_ifExp hc ha hb).imp fun σ H Q ⟨W, s, e, R, ER, P⟩ => ⟨W, s, e, R, ER, ?_⟩
  simp only [evE] at P
  refine P.bind (rel1 := relB) fun d s1 W1 x H1 x1 k1 R1 v1 P1 => ?_
  have v1' : x = d := v1
  subst v1'
  cases x with
  | false => rw [if_neg Bool.false_ne_true]; exact ⟨W1, s1, e, R1, ER.mono x1 k1, P1⟩
  | true => rw [if_pos rfl]; exact ⟨W1, s1, e, R1, ER.mono x1 k1, P1⟩
/-! lists of arguments -/
theorem a_nil : PA X [] (tA G Wx K []) := by
  refine pa_nil.imp fun σ H Q ⟨W, s, e, R, ER, P⟩ => ?_
  simp only [evEs] at P
  exact P.now R .nil
theorem a_cons {es : List Expr} {ms : List DE} (ha : PE X ea (tE G Wx K a)) (hr : PA X es (tA G Wx K ms)) (hs : starEach (ea :: es) X.env = (false, eval ea X.env) :: starEach es X.env) : PA X (ea :: es) (tA G Wx K (a :: ms)) := by
  refine (pa_cons ha hr hs).imp fun σ H Q ⟨W, s, e, R, ER, P⟩ => ⟨W, s, e, R, ER, ?_⟩
  simp only [evEs] at P
  refine P.bind (rel1 := VR G) fun d s1 W1 x H1 x1 k1 R1 v1 P1 => ⟨W1, s1, e, R1, ER.mono x1 k1, ?_⟩
  refine P1.bind (rel1 := VRs G) fun ds s2 W2 xs H2 x2 k2 R2 v2 P2 => ?_
  exact P2.now R2 (.cons (v1.mono x2 k2) v2)
/-! displays -/
theorem e_tup {es : List Expr} {ms : List DE} {x1 : Nat} (h : PA X es (tA G Wx K ms)) : PE X (.Tuple es x1 pos) (tE G Wx K (.tup ms)) := by
  refine (pe_tup h).imp fun σ H Q ⟨W, s, e, R, ER, P⟩ => ⟨W, s, e, R, ER, ?_⟩
  simp only [evE] at P
  refine P.bind (rel1 := VRs G) fun ds s1 W1 xs H1 e1 k1 R1 v1 P1 => ?_
  split at P1
  · rename_i c
    refine ⟨by rw [v1.length, ← LIM_eq]; exact c, fun p hp => ?_⟩
    obtain ⟨k2, r2, v2⟩ := newT R1 hp v1
    exact P1.ret (Ext.refl W1) k2 r2 v2
  · exact P1.elim
theorem e_lst {es : List Expr} {ms : List DE} (cell : Bool) (h : PA X es (tA G Wx K ms)) : PE X (.List es pos) (tE G Wx K (.lst cell ms)) := by
  refine (pe_lst h).imp fun σ H Q ⟨W, s, e, R, ER, P⟩ => ⟨W, s, e, R, ER, ?_⟩
  simp only [evE] at P
  refine P.bind (rel1 := VRs G) fun ds s1 W1 xs H1 e1 k1 R1 v1 P1 => ?_
  split at P1
  · rename_i c
    refine ⟨by rw [v1.length, ← LIM_eq]; exact c, fun p hp => ?_⟩
    cases cell with
    | false =>
      obtain ⟨e2, k2, r2, v2⟩ := newL R1 hp v1
      exact P1.ret e2 k2 r2 v2
    | true =>
      obtain ⟨e2, k2, r2, v2⟩ := R1.newC hp (HoR.lst v1)
      exact P1.ret e2 k2 r2 v2
  · exact P1.elim
theorem e_dct0 (t : Bool) : PE X (.Dict [] [] pos) (tE G Wx K (.dct t [] [])) := by
  cases t with
  | false =>
    refine (pe_dnewK).imp fun σ H Q ⟨W, s, e, R, ER, P⟩ => fun p hp => ?_
    simp only [evE, evEs, M.R.bind] at P
    obtain ⟨e2, k2, r2, v2⟩ := R.newC (c := .dct false []) hp (HoR.dK (kvs := []) (gs := []) ⟨fun _ h => (by cases h), rfl, .nil⟩)
    exact Post.ret P e2 k2 r2 v2
  | true =>
    refine (pe_dnewT).imp fun σ H Q ⟨W, s, e, R, ER, P⟩ => fun p hp => ?_
    simp only [evE, evEs, M.R.bind] at P
    obtain ⟨e2, k2, r2, v2⟩ := R.newC (c := .dct true []) hp (HoR.dT (kvs := []) (gs := []) ⟨fun _ h => (by cases h), rfl, .nil⟩)
    exact Post.ret P e2 k2 r2 v2
/-! places -/
theorem e_sub (C : XC G X Wx) (ha : PE X ea (tE G Wx K a)) (hb : PE X eb (tE G Wx K b)) (h1 : PlainIx eb) (h2 : NoSl eb) : PE X (.Subscript ea eb pos) (tE G Wx K (.sub a b)) := by
  have hu1 : X.A.units + 1 < cLine := by have := C.hu; omega
  refine (PE.or (pe_dget hu1 ha hb h2) (pe_ix ix_seq ha hb h1)).imp fun σ H Q ⟨W, s, e, R, ER, P⟩ => ?_
  simp only [evE] at P
  have isD : (∃ x s1 i s2 t gs, evE K a e s = .ok x s1 ∧ evE K b e s1 = .ok i s2 ∧ dctOf s2 x = some (t, gs)) ∨ ∀ x s1 i s2, evE K a e s = .ok x s1 → evE K b e s1 = .ok i s2 → dctOf s2 x = none := by
    by_cases h : ∃ x s1 i s2 t gs, evE K a e s = .ok x s1 ∧ evE K b e s1 = .ok i s2 ∧ dctOf s2 x = some (t, gs)
    · exact .inl h
    · refine .inr fun x s1 i s2 h1 h2 => ?_
      cases hd : dctOf s2 x with
      | none => rfl
      | some p => exact absurd ⟨x, s1, i, s2, p.1, p.2, h1, h2, hd⟩ h
  rcases isD with ⟨x, s1, i, s2, t, gs, h1, h2, hd⟩ | hn
  · refine .inl ⟨W, s, e, R, ER, ?_⟩
    rw [h1] at P ⊢
    intro W1 x' H1 x1 k1 R1 v1
    refine ⟨W1, s1, e, R1, ER.mono x1 k1, ?_⟩
    have P1 := Post.rebase P x1 k1
    simp only [M.R.bind, h2] at P1 ⊢
    intro W2 y H2 x2 k2 R2 v2
    have P2 := Post.rebase P1 x2 k2
    obtain ⟨r, hr, P3⟩ := P2.opt
    obtain ⟨a', v, rfl, g, hv⟩ := sub_dict hu1 R2 (v1.mono x2 k2) v2 hd hr
    exact ⟨a', v, rfl, g, P3.now R2 hv⟩
  · refine .inr ⟨W, s, e, R, ER, ?_⟩
    cases h1 : evE K a e s with
    | bad => rw [h1] at P; exact P.elim
    | exc c s1 => rw [h1] at P; exact P
    | ok x s1 =>
      rw [h1] at P
      intro W1 x' H1 x1 k1 R1 v1
      refine ⟨W1, s1, e, R1, ER.mono x1 k1, ?_⟩
      have P1 := Post.rebase P x1 k1
      cases h2 : evE K b e s1 with
      | bad => simp only [M.R.bind, h2] at P1; exact P1.elim
      | exc c s2 => simp only [M.R.bind, h2] at P1; exact P1
      | ok i s2 =>
        simp only [M.R.bind, h2] at P1
        intro W2 y H2 x2 k2 R2 v2
        have P2 := Post.rebase P1 x2 k2
        obtain ⟨r, hr, P3⟩ := P2.opt
        exact sub_seq C.K R2 (v1.mono x2 k2) v2 (hn x s1 i s2 h1 h2) hr fun v hv => P3.now R2 hv
/-- a slice's part -/
def tO (G : G0) (Wx : WX) (K : Calls) (m : Option DE) : TO := fun σ H Q => ∃ W s e, Rel G W s H ∧ EnvR G W H σ e ∧ Post G (fun W H (o : Option Int) (d : Option D) => optI d = some o) W H (evO K m e s) Q (wx G Wx σ)
end
end MS

set_option Elab.async false
set_option linter.all false
set_option maxRecDepth 100000
set_option maxHeartbeats 400000
set_option autoImplicit false
/-! S7: built-ins. -/
namespace MS
open PySem L2 M

/-- a call on values -/
def rL (G : G0) (f : S → List D → Option D) : List V → Hp → VK → Prop := fun xs H Q => ∃ W s ds d, Rel G W s H ∧ VRs G W H xs ds ∧ f s ds = some d ∧ ∀ W' v H', Ext W W' → Keeps W H H' → Rel G W' s H' → VR G W' H' v d → Q v H'
section
variable {G : G0} {X : Cx} {pins : List (Addr × Obj)} {σ : L2.St} {H : Hp} {s : Shared} {W : Wd} {ms : S}
theorem sqL_of (hK : X.K = G.K) {a : Addr} {vs : List V} (h : Rd H a (.lst vs)) : SqL X.K H a vs := .inl h
theorem ints_v : ∀ {ds : List D} {ns : List Int} {vs : List V}, intsOf ds = some ns → VRs G W H vs ds → vs = ns.map V.int
  | [], ns, vs, e, h => by cases e; cases h; rfl
  | .int i :: ds, ns, vs, e, h => by
    cases h with
    | cons hv ht =>
      cases hh : intsOf ds with
      | none => simp [intsOf, hh] at e
      | some ms' =>
        simp only [intsOf, hh, Option.map_some, Option.some.injEq] at e
        subst e
        rw [hv.int_, ints_v hh ht]; rfl
  | .non :: _, _, _, e, _ => by simp [intsOf] at e
  | .bl _ :: _, _, _, e, _ => by simp [intsOf] at e
  | .str _ :: _, _, _, e, _ => by simp [intsOf] at e
  | .tup _ :: _, _, _, e, _ => by simp [intsOf] at e
  | .lst _ :: _, _, _, e, _ => by simp [intsOf] at e
  | .dct .. :: _, _, _, e, _ => by simp [intsOf] at e
  | .ins .. :: _, _, _, e, _ => by simp [intsOf] at e
  | .rg _ :: _, _, _, e, _ => by simp [intsOf] at e
  | .exc _ :: _, _, _, e, _ => by simp [intsOf] at e
  | .scr _ :: _, _, _, e, _ => by simp [intsOf] at e
theorem bls_v : ∀ {ds : List D} {ns : List Bool} {vs : List V}, blsOf ds = some ns → VRs G W H vs ds → vs = ns.map V.bl
  | [], ns, vs, e, h => by cases e; cases h; rfl
  | .bl i :: ds, ns, vs, e, h => by
    cases h with
    | cons hv ht =>
      cases hh : blsOf ds with
      | none => simp [blsOf, hh] at e
      | some ms' =>
        simp only [blsOf, hh, Option.map_some, Option.some.injEq] at e
        subst e
        rw [hv.bl_, bls_v hh ht]; rfl
  | .non :: _, _, _, e, _ => by simp [blsOf] at e
  | .int _ :: _, _, _, e, _ => by simp [blsOf] at e
  | .str _ :: _, _, _, e, _ => by simp [blsOf] at e
  | .tup _ :: _, _, _, e, _ => by simp [blsOf] at e
  | .lst _ :: _, _, _, e, _ => by simp [blsOf] at e
  | .dct .. :: _, _, _, e, _ => by simp [blsOf] at e
  | .ins .. :: _, _, _, e, _ => by simp [blsOf] at e
  | .rg _ :: _, _, _, e, _ => by simp [blsOf] at e
  | .exc _ :: _, _, _, e, _ => by simp [blsOf] at e
  | .scr _ :: _, _, _, e, _ => by simp [blsOf] at e
theorem txs_v : ∀ {ds : List D} {ns : List Tx} {vs : List V}, txsOf ds = some ns → VRs G W H vs ds → vs = ns.map (fun x => V.str (tx x)) ∧ ∀ x ∈ ns, okT x = true
  | [], ns, vs, e, h => by cases e; cases h; exact ⟨rfl, fun _ h => by cases h⟩
  | .str i :: ds, ns, vs, e, h => by
    cases h with
    | cons hv ht =>
      cases hh : txsOf ds with
      | none => simp [txsOf, hh] at e
      | some ms' =>
        simp only [txsOf, hh, Option.map_some, Option.some.injEq] at e
        subst e
        obtain ⟨i1, i2⟩ := txs_v hh ht
        obtain ⟨rfl, o⟩ := hv.str_
        refine ⟨by rw [i1]; rfl, fun x hx => ?_⟩
        rcases List.mem_cons.mp hx with rfl | hx
        · exact o
        · exact i2 x hx
  | .non :: _, _, _, e, _ => by simp [txsOf] at e
  | .bl _ :: _, _, _, e, _ => by simp [txsOf] at e
  | .int _ :: _, _, _, e, _ => by simp [txsOf] at e
  | .tup _ :: _, _, _, e, _ => by simp [txsOf] at e
  | .lst _ :: _, _, _, e, _ => by simp [txsOf] at e
  | .dct .. :: _, _, _, e, _ => by simp [txsOf] at e
  | .ins .. :: _, _, _, e, _ => by simp [txsOf] at e
  | .rg _ :: _, _, _, e, _ => by simp [txsOf] at e
  | .exc _ :: _, _, _, e, _ => by simp [txsOf] at e
  | .scr _ :: _, _, _, e, _ => by simp [txsOf] at e
theorem vrs1 {xs : List V} {d : D} (h : VRs G W H xs [d]) : ∃ x, xs = [x] ∧ VR G W H x d := by
  cases h with
  | cons hv ht => cases ht; exact ⟨_, rfl, hv⟩
theorem vrs2 {xs : List V} {d e : D} (h : VRs G W H xs [d, e]) : ∃ x y, xs = [x, y] ∧ VR G W H x d ∧ VR G W H y e := by
  cases h with
  | cons hv ht => obtain ⟨y, rfl, hy⟩ := vrs1 ht; exact ⟨_, _, rfl, hv, hy⟩
theorem lb_len (hK : X.K = G.K) : CallR X (.builtin "len") (rL G fun s ds => callB s .len ds) := by
  intro pins s σ H xs us Q I r ⟨W, ms, ds, d, R, vs, e, q⟩
  match ds, e with
  | [dx], e =>
    obtain ⟨x, rfl, vx⟩ := vrs1 vs
    have fin : ∀ n : Nat, d = .int n → Q (.int n) H := fun n hn => q W _ H (Ext.refl W) (Keeps.refl W H) R (by rw [hn]; exact .int _)
    by_cases hs : ∃ z, dx = .str z
    · obtain ⟨z, rfl⟩ := hs
      obtain ⟨rfl, _⟩ := vx.str_
      simp only [callB] at e
      split at e
      · rename_i c
        cases e
        refine call_len_str pins s σ H _ us Q I r ⟨_, rfl, by rw [tx_len, ← LIM_eq]; exact c, ?_⟩
        rw [tx_len]
        exact fin _ rfl
      · cases e
    · have e' : (match dctOf ms dx with
        | some (_, kvs) => some (D.int kvs.length)
        | none => (seqOf ms dx).map fun xs => .int xs.length) = some d := by
        rw [← e]
        cases dx <;> first | rfl | exact absurd ⟨_, rfl⟩ hs
      cases hd : dctOf ms dx with
      | some p =>
        obtain ⟨t, gs⟩ := p
        rw [hd] at e'
        cases e'
        obtain ⟨a, rfl, dc⟩ := dct_of R vx hd
        rw [Vals.ref1 r]
        cases dc with
        | @k kvs _ hr hg =>
          refine d_len I hr fun t s' I' => EP.mk (v := .int (kvs.length : Nat)) I' ⟨t, rfl⟩ ?_
          have hl := GR.length (f := keyK) (P := PK0) hg
          rw [hl]; exact fin _ rfl
        | @t kvs _ hr hg =>
          obtain ⟨hz, hd', xs, kt, dd⟩ := dt_rd I.hok hr
          have hl := GR.length (f := keyT) (P := PT0) hg
          have hl2 : kvs.length = xs.length := Paired.length kt
          have h3 := line63
          refine call_len_dictH hd' dd (by omega) (EP.mk (v := .int (xs.length : Nat)) ((I.tok _).tok _) ⟨_, rfl⟩ ?_)
          rw [← hl2, hl]; exact fin _ rfl
      | none =>
        rw [hd] at e'
        cases hq : seqOf ms dx with
        | none => rw [hq] at e'; cases e'
        | some ys =>
          rw [hq] at e'
          cases e'
          obtain ⟨a, ws, rfl, hsq, hw⟩ := seq_of R vx hq
          rw [← hK] at hsq
          refine call_len_seq pins s σ H _ us Q I r ⟨a, ws, rfl, hsq, ?_⟩
          rw [hw.length]
          exact fin _ rfl
  | [], e => simp [callB] at e
  | _ :: _ :: _, e => simp [callB] at e
theorem lb_sum (hK : X.K = G.K) (hc : X.calm = true) : CallR X (.builtin "sum") (rL G fun s ds => callB s .sum ds) := by
  intro pins s σ H xs us Q I r ⟨W, ms, ds, d, R, vs, e, q⟩
  match ds, e with
  | [dx], e =>
    obtain ⟨x, rfl, vx⟩ := vrs1 vs
    simp only [callB] at e
    cases hq : lstOf ms dx with
    | none => rw [hq] at e; cases e
    | some ys =>
      rw [hq] at e
      cases hn : intsOf ys with
      | none => simp [hn] at e
      | some ns =>
        simp only [Option.bind_some, hn, Option.map_some, Option.some.injEq] at e
        subst e
        obtain ⟨a, ws, rfl, hr, hw⟩ := lst_of R vx hq
        refine cr_sum hc pins s σ H _ us Q I r ⟨a, ns, rfl, ?_, q W _ H (Ext.refl W) (Keeps.refl W H) R (.int _)⟩
        rw [← ints_v hn hw]
        exact .inl hr
  | [], e => simp [callB] at e
  | _ :: _ :: _, e => simp [callB] at e
theorem lb_all (hK : X.K = G.K) (hc : X.calm = true) : CallR X (.builtin "all") (rL G fun s ds => callB s .all ds) := by
  intro pins s σ H xs us Q I r ⟨W, ms, ds, d, R, vs, e, q⟩
  match ds, e with
  | [dx], e =>
    obtain ⟨x, rfl, vx⟩ := vrs1 vs
    simp only [callB] at e
    cases hq : lstOf ms dx with
    | none => rw [hq] at e; cases e
    | some ys =>
      rw [hq] at e
      cases hn : blsOf ys with
      | none => simp [hn] at e
      | some ns =>
        simp only [Option.bind_some, hn, Option.map_some, Option.some.injEq] at e
        subst e
        obtain ⟨a, ws, rfl, hr, hw⟩ := lst_of R vx hq
        refine cr_all hc pins s σ H _ us Q I r ⟨a, ns, rfl, ?_, q W _ H (Ext.refl W) (Keeps.refl W H) R (.bl _)⟩
        rw [← bls_v hn hw]
        exact .inl hr
  | [], e => simp [callB] at e
  | _ :: _ :: _, e => simp [callB] at e
theorem lb_any (hK : X.K = G.K) (hc : X.calm = true) : CallR X (.builtin "any") (rL G fun s ds => callB s .any ds) := by
  intro pins s σ H xs us Q I r ⟨W, ms, ds, d, R, vs, e, q⟩
  match ds, e with
  | [dx], e =>
    obtain ⟨x, rfl, vx⟩ := vrs1 vs
    simp only [callB] at e
    cases hq : lstOf ms dx with
    | none => rw [hq] at e; cases e
    | some ys =>
      rw [hq] at e
      cases hn : blsOf ys with
      | none => simp [hn] at e
      | some ns =>
        simp only [Option.bind_some, hn, Option.map_some, Option.some.injEq] at e
        subst e
        obtain ⟨a, ws, rfl, hr, hw⟩ := lst_of R vx hq
        refine cr_any hc pins s σ H _ us Q I r ⟨a, ns, rfl, ?_, q W _ H (Ext.refl W) (Keeps.refl W H) R (.bl _)⟩
        rw [← bls_v hn hw]
        exact .inl hr
  | [], e => simp [callB] at e
  | _ :: _ :: _, e => simp [callB] at e
theorem lb_min2 (hc : X.calm = true) : CallR X (.builtin "min") (rL G fun s ds => callB s .min2 ds) := by
  intro pins s σ H xs us Q I r ⟨W, ms, ds, d, R, vs, e, q⟩
  match ds, e with
  | [.int i, .int j], e =>
    obtain ⟨x, y, rfl, vx, vy⟩ := vrs2 vs
    cases vx.int_; cases vy.int_
    simp only [callB, Option.some.injEq] at e
    subst e
    exact call_min2 hc pins s σ H _ us Q I r ⟨i, j, rfl, q W _ H (Ext.refl W) (Keeps.refl W H) R (.int _)⟩
theorem lb_max2 (hc : X.calm = true) : CallR X (.builtin "max") (rL G fun s ds => callB s .max2 ds) := by
  intro pins s σ H xs us Q I r ⟨W, ms, ds, d, R, vs, e, q⟩
  match ds, e with
  | [.int i, .int j], e =>
    obtain ⟨x, y, rfl, vx, vy⟩ := vrs2 vs
    cases vx.int_; cases vy.int_
    simp only [callB, Option.some.injEq] at e
    subst e
    exact call_max2 hc pins s σ H _ us Q I r ⟨i, j, rfl, q W _ H (Ext.refl W) (Keeps.refl W H) R (.int _)⟩
theorem lb_int : CallR X (.type "int") (rL G fun s ds => callB s .int ds) := by
  intro pins s σ H xs us Q I r ⟨W, ms, ds, d, R, vs, e, q⟩
  match ds, e with
  | [.int i], e =>
    obtain ⟨x, rfl, vx⟩ := vrs1 vs
    cases vx.int_
    simp only [callB, Option.some.injEq] at e
    subst e
    exact call_int1 pins s σ H _ us Q I r (.inl ⟨i, rfl, q W _ H (Ext.refl W) (Keeps.refl W H) R (.int _)⟩)
  | [.bl i], e =>
    obtain ⟨x, rfl, vx⟩ := vrs1 vs
    cases vx.bl_
    simp only [callB, Option.some.injEq] at e
    subst e
    refine call_int1 pins s σ H _ us Q I r (.inr ⟨i, rfl, ?_⟩)
    have : (if i = true then (1 : Int) else 0) = cond i 1 0 := by cases i <;> rfl
    rw [this]
    exact q W _ H (Ext.refl W) (Keeps.refl W H) R (.int _)
theorem seq_ofL (r : Rel G W ms H) {v : V} {d : D} (hd : ¬ ∃ ys, d = .tup ys) (h : VR G W H v d) {xs : List D} (e : seqOf ms d = some xs) : ∃ a vs, v = .ref a ∧ SqL G.K H a vs ∧ VRs G W H vs xs := by
  have l : ∀ {xs : List D}, lstOf ms d = some xs → ∃ a vs, v = .ref a ∧ SqL G.K H a vs ∧ VRs G W H vs xs := fun {xs} e => by
    obtain ⟨a, vs, q, z, t⟩ := lst_of r h e
    exact ⟨a, vs, q, .inl z, t⟩
  cases d with
  | tup ys => exact absurd ⟨ys, rfl⟩ hd
  | scr ns =>
    cases h with
    | scr q => cases e; exact ⟨_, _, rfl, scr_sq q, scr_vrs ns⟩
  | _ => exact l e
theorem lb_tuple (hK : X.K = G.K) : CallR X (.type "tuple") (rL G fun s ds => callB s .tuple ds) := by
  intro pins s σ H xs us Q I r ⟨W, ms, ds, d, R, vs, e, q⟩
  match ds, e with
  | [dx], e =>
    obtain ⟨x, rfl, vx⟩ := vrs1 vs
    simp only [callB] at e
    cases hq : seqOf ms dx with
    | none => rw [hq] at e; cases e
    | some ys =>
      rw [hq] at e
      cases e
      by_cases ht : ∃ ys', dx = .tup ys'
      · obtain ⟨ys', rfl⟩ := ht
        cases hq
        cases vx with
        | @tup a vs' _ hq2 hv2 =>
          exact call_tuple_of pins s σ H _ us Q I r ⟨a, _, rfl, .inr ⟨.inl (.inl hq2), q W _ H (Ext.refl W) (Keeps.refl W H) R (.tup hq2 hv2)⟩⟩
      · obtain ⟨a, ws, rfl, hl, hw⟩ := seq_ofL R ht vx hq
        rw [← hK] at hl
        refine call_tuple_of pins s σ H _ us Q I r ⟨a, ws, rfl, .inl ⟨hl, fun p hp => ?_⟩⟩
        obtain ⟨k1, r1, v1⟩ := newT R hp hw
        exact q W _ _ (Ext.refl W) k1 r1 v1
  | [], e => simp [callB] at e
  | _ :: _ :: _, e => simp [callB] at e
/-! sorted, min, max -/
open PySem.W (dataLt alike alikeAll keyToks keyToksAll toks_all_cons)
theorem dataLt_str' (x y : Tx) : dataLt (.str (tx x)) (.str (tx y)) = decide (x < y) := by
  rw [PySem.W.dataLt_str, tx_cps, tx_cps]
mutual
theorem ltD_data : ∀ (a b : D) (n m : Nat), plainD n a = true → plainD m b = true → alikeD a b = true → alike (toPy a) (toPy b) = true ∧ dataLt (toPy a) (toPy b) = ltD a b
  | .tup xs, b, n, m, p, q, h => by
    cases b with
    | tup ys =>
      obtain ⟨k, pk⟩ := plainD_tup p
      obtain ⟨k', pk'⟩ := plainD_tup q
      obtain ⟨i1, i2⟩ := ltDs_data xs ys k k' pk pk' (by simpa [alikeD] using h)
      exact ⟨by simp only [toPy, alike]; exact i1, by simp only [toPy, ltD]; rw [PySem.W.dataLt_tuple]; exact i2⟩
    | _ => simp [alikeD] at h
  | .lst xs, b, n, m, p, q, h => by
    cases b with
    | lst ys =>
      obtain ⟨k, pk⟩ := plainD_lst p
      obtain ⟨k', pk'⟩ := plainD_lst q
      obtain ⟨i1, i2⟩ := ltDs_data xs ys k k' pk pk' (by simpa [alikeD] using h)
      exact ⟨by simp only [toPy, alike]; exact i1, by simp only [toPy, ltD]; rw [PySem.W.dataLt_list]; exact i2⟩
    | _ => simp [alikeD] at h
  | .bl x, b, n, m, p, q, h => by
    cases b with
    | bl y => exact ⟨by simp [toPy, alike], by simp only [toPy, ltD]; rw [PySem.W.dataLt_bool]; cases x <;> cases y <;> rfl⟩
    | _ => simp [alikeD] at h
  | .int x, b, n, m, p, q, h => by
    cases b with
    | int y => exact ⟨by simp [toPy, alike], by simp only [toPy, ltD]; rw [PySem.W.dataLt_int]⟩
    | _ => simp [alikeD] at h
  | .str x, b, n, m, p, q, h => by
    cases b with
    | str y => exact ⟨by simp [toPy, alike], by simp only [toPy, ltD]; rw [dataLt_str']⟩
    | _ => simp [alikeD] at h
  | .non, b, n, m, p, q, h => by cases b <;> simp [alikeD] at h
  | .dct .., b, n, m, p, q, h => by cases n <;> simp [plainD] at p
  | .ins .., b, n, m, p, q, h => by cases n <;> simp [plainD] at p
  | .rg .., b, n, m, p, q, h => by cases n <;> simp [plainD] at p
  | .exc .., b, n, m, p, q, h => by cases n <;> simp [plainD] at p
  | .scr .., b, n, m, p, q, h => by cases n <;> simp [plainD] at p
theorem ltDs_data : ∀ (a b : List D) (n m : Nat), plainDs n a = true → plainDs m b = true → alikeDs a b = true → alikeAll (toPys a) (toPys b) = true ∧ PyProof.Rows.lexLt PyProof.Rows.itemOrd (keyToksAll (toPys a)) (keyToksAll (toPys b)) = ltDs a b
  | [], [], n, m, p, q, h => by simp [toPys, alikeAll, ltDs, keyToksAll]; rfl
  | [], y :: ys, n, m, p, q, h => by
    refine ⟨by simp [toPys, alikeAll], ?_⟩
    simp only [toPys, ltDs, toks_all_cons, keyToksAll]
    rfl
  | x :: xs, [], n, m, p, q, h => by
    refine ⟨by simp [toPys, alikeAll], ?_⟩
    simp only [toPys, ltDs, toks_all_cons, keyToksAll]
    rfl
  | x :: xs, y :: ys, n, m, p, q, h => by
    rw [plainDs, Bool.and_eq_true] at p q
    rw [alikeDs, Bool.and_eq_true] at h
    obtain ⟨a1, a2⟩ := ltD_data x y n m p.1 q.1 h.1
    obtain ⟨b1, b2⟩ := ltDs_data xs ys n m p.2 q.2 h.2
    refine ⟨by simp only [toPys, alikeAll]; rw [a1, b1]; rfl, ?_⟩
    simp only [toPys, ltDs]
    rw [PySem.W.dataLt_cons a1, eqD_eqv x y n m p.1 q.1, a2, b2]
end

def enc2 (b : V × D) : PyData := toPy b.2
theorem each_zip : ∀ {ws : List V} {its : List Value} {ys : List D}, Vals ws its → VRs G W H ws ys → PySem.W.EachIs (fun (v : Value) (b : V × D) => RelV b.1 v ∧ VR G W H b.1 b.2) its (ws.zip ys)
  | _, _, _, .nil, h => by cases h; exact .nil
  | _, _, _, .cons r t, h => by
    cases h with
    | cons hv ht => exact .cons ⟨r, hv⟩ (each_zip t ht)
theorem each_fst : ∀ {out : List Value} {bs : List (V × D)}, PySem.W.EachIs (fun (v : Value) (b : V × D) => RelV b.1 v ∧ VR G W H b.1 b.2) out bs → Vals (bs.map (·.1)) out ∧ VRs G W H (bs.map (·.1)) (bs.map (·.2))
  | _, _, .nil => ⟨.nil, .nil⟩
  | _, _, .cons h t => ⟨.cons h.1 (each_fst t).1, .cons h.2 (each_fst t).2⟩
theorem canSort_mem {xs : List D} (h : canSort xs = true) : (∀ x ∈ xs, plainD 5 x = true ∧ ∀ y ∈ xs, alikeD x y = true) ∧ ((∀ x ∈ xs, ∃ a r, x = .tup (a :: r)) ∨ ∀ x ∈ xs, ∀ r, x ≠ .tup r) := by
  unfold canSort at h
  rw [Bool.and_eq_true, Bool.or_eq_true] at h
  obtain ⟨h1, h2⟩ := h
  refine ⟨fun x hx => ?_, ?_⟩
  · have := List.all_eq_true.mp h1 x hx
    rw [Bool.and_eq_true] at this
    exact ⟨this.1, fun y hy => List.all_eq_true.mp this.2 y hy⟩
  · rcases h2 with h2 | h2
    · refine .inl fun x hx => ?_
      have := List.all_eq_true.mp h2 x hx
      cases x with
      | tup r => cases r with
        | nil => simp at this
        | cons a r => exact ⟨a, r, rfl⟩
      | _ => simp at this
    · refine .inr fun x hx r e => ?_
      have := List.all_eq_true.mp h2 x hx
      subst e
      simp at this
theorem sort_snd {bs : List (V × D)} (h : ∀ b ∈ bs, plainD 5 b.2 = true ∧ ∀ c ∈ bs, alikeD b.2 c.2 = true) : (bs.mergeSort (PySem.W.dataLe false enc2)).map (·.2) = (bs.map (·.2)).mergeSort fun a b => !ltD b a := by
  refine PySem.W.sort_maps _ fun a ha b hb => ?_
  rw [PySem.W.dataLe_eq]
  show (!dataLt (toPy b.2) (toPy a.2)) = !ltD b.2 a.2
  rw [(ltD_data b.2 a.2 5 5 (h b hb).1 (h a ha).1 ((h b hb).2 a ha)).2]
theorem _root_.PySem.W.EachIs.zip' {α : Type} {P : V × D → Prop} {R : α → V × D → Prop} (hR : ∀ a b, R a b → P b) : ∀ {as : List α} {bs : List (V × D)}, PySem.W.EachIs R as bs → ∀ {b : V × D}, b ∈ bs → P b
  | _, _, .nil, _, h => by cases h
  | _, _, .cons r t, b, h => by
    rcases List.mem_cons.mp h with rfl | h
    · exact hR _ _ r
    · exact PySem.W.EachIs.zip' hR t h
theorem sorted_ok (hK : X.K = G.K) (hu : X.A.units + 65 < cLine) (I : Inv X pins σ H s) (R : Rel G W ms H) {a : Addr} {ws : List V} {ys : List D} (hr : Rd H a (.lst ws)) (hw : VRs G W H ws ys) (hs : canSort ys = true) (hl : ys.length ≤ LIM) {Q : VK}
    (q : ∀ W' v H', Ext W W' → Keeps W H H' → Rel G W' ms H' → VR G W' H' v (.lst (sortD ys)) → Q v H') : wpAny (model X.prog X.w) X.A (call (.builtin "sorted") [.ref a]) (EP X pins σ Q) X.xe s := by
  obtain ⟨its, rv, hpl, _⟩ := I.list (sqL_of hK hr)
  have hlen : ws.length = ys.length := hw.length
  obtain ⟨m1, m2⟩ := canSort_mem hs
  have e := each_zip rv hw
  have hz : ∀ b ∈ ws.zip ys, b.2 ∈ ys := fun b hb => (List.of_mem_zip hb).2
  have hp : ∀ b ∈ ws.zip ys, plainD 5 b.2 = true ∧ ∀ c ∈ ws.zip ys, alikeD b.2 c.2 = true := fun b hb => ⟨(m1 _ (hz b hb)).1, fun c hc => (m1 _ (hz b hb)).2 _ (hz c hc)⟩
  have er : PySem.W.EachIs (fun v b => ∃ as, Reads s.heap v (enc2 b) as) its (ws.zip ys) := by
    have aux : ∀ {its : List Value} {bs : List (V × D)}, PySem.W.EachIs (fun (v : Value) (b : V × D) => RelV b.1 v ∧ VR G W H b.1 b.2) its bs → (∀ b ∈ bs, plainD 5 b.2 = true) → PySem.W.EachIs (fun v b => ∃ as, Reads s.heap v (enc2 b) as) its bs := by
      intro its bs e
      induction e with
      | nil => intro _; exact .nil
      | cons h t ih =>
        intro hp
        refine .cons ?_ (ih fun b hb => hp b (List.mem_cons_of_mem _ hb))
        have d := dp_of (hp _ List.mem_cons_self) h.2
        rw [← hK] at d
        exact Dp.reads I _ _ _ d h.1
    exact aux e fun b hb => (hp b hb).1
  have hal : PySem.W.AllAlike ((ws.zip ys).map enc2) := by
    intro d hd d' hd'
    obtain ⟨b, hb, rfl⟩ := List.mem_map.mp hd
    obtain ⟨c, hc, rfl⟩ := List.mem_map.mp hd'
    exact (ltD_data b.2 c.2 5 5 (hp b hb).1 (hp c hc).1 ((hp b hb).2 c hc)).1
  have hso : PySem.W.Sortable ((ws.zip ys).map enc2) := by
    rcases m2 with m2 | m2
    · refine .inl fun d hd => ?_
      obtain ⟨b, hb, rfl⟩ := List.mem_map.mp hd
      obtain ⟨x, r, ex⟩ := m2 _ (hz b hb)
      exact ⟨toPy x, toPys r, by unfold enc2; rw [ex, toPy, toPys]⟩
    · refine .inr fun d hd => ?_
      obtain ⟨b, hb, rfl⟩ := List.mem_map.mp hd
      have nt := m2 _ (hz b hb)
      have al := (hp b hb).2 b hb
      unfold enc2
      cases hh : b.2 <;> rw [hh] at nt al <;> first | exact absurd rfl (nt _) | (simp [alikeD] at al; done) | exact ⟨by simp [toPy], fun xs => by simp [toPy]⟩
  have hzl : (ws.zip ys).length = ys.length := by rw [List.length_zip]; omega
  refine PySem.W.sorted_data hpl.isList e er hal hso (by rw [hzl, ← LIM_eq]; exact hl) (fun b hb => ?_) fun out hout eo => ?_
  · have := (lay_of (hp b hb).1 (show VR G W H b.1 b.2 from (PySem.W.EachIs.zip' (P := fun b => VR G W H b.1 b.2) (fun _ _ h => h.2) e hb))).2
    unfold enc2
    omega
  · obtain ⟨ev, er2⟩ := each_fst eo
    obtain ⟨ep, he'⟩ := PyProof.Rows.sortedAll_at s.heap its out.toArray
    have hlen2 : (((ws.zip ys).mergeSort (PySem.W.dataLe false enc2)).map (·.1)).length ≤ sizeLine := by
      rw [List.length_map, List.length_mergeSort, hzl, ← LIM_eq]; exact hl
    have hn : H (s.heap.objs.size + 1) = none := I.hok.fresh (Nat.le_succ _)
    have hsn : ((ws.zip ys).mergeSort (PySem.W.dataLe false enc2)).map (·.2) = sortD ys := by
      rw [sort_snd hp, zip_snd hlen]; rfl
    rw [hsn] at er2
    obtain ⟨e1, k1, r1, v1⟩ := newL R hn er2
    exact ⟨.ref _, upd H (s.heap.objs.size + 1) (.lst _), I.laid (t' := s.toks) (fun _ _ => PyProof.Rows.sortedAll_old) (Nat.le_succ _) ⟨hlen2, out, ep, ev, he'⟩, rfl, q _ _ _ e1 k1 r1 v1⟩
theorem lb_sorted (hK : X.K = G.K) (hu : X.A.units + 65 < cLine) : CallR X (.builtin "sorted") (rL G fun s ds => callB s .sorted ds) := by
  intro pins s σ H xs us Q I r ⟨W, ms, ds, d, R, vs, e, q⟩
  match ds, e with
  | [dx], e =>
    obtain ⟨x, rfl, vx⟩ := vrs1 vs
    simp only [callB] at e
    cases hq : lstOf ms dx with
    | none => rw [hq] at e; cases e
    | some ys =>
      rw [hq] at e
      simp only [Option.bind_some] at e
      split at e
      · rename_i c
        rw [Bool.and_eq_true, decide_eq_true_eq] at c
        cases e
        obtain ⟨a, ws, rfl, hr, hw⟩ := lst_of R vx hq
        rw [Vals.ref1 r]
        exact sorted_ok hK hu I R hr hw c.1 c.2 q
      · cases e
  | [], e => simp [callB] at e
  | _ :: _ :: _, e => simp [callB] at e
mutual
theorem toPy_inj : ∀ (a b : D) (n m : Nat), plainD n a = true → plainD m b = true → toPy a = toPy b → a = b
  | .tup xs, b, n, m, p, q, h => by
    obtain ⟨k, pk⟩ := plainD_tup p
    rcases plainD_ins q with rfl | ⟨y, rfl⟩ | ⟨y, rfl⟩ | ⟨y, rfl⟩ | ⟨y, rfl⟩ | ⟨y, rfl⟩ <;> simp [toPy] at h
    obtain ⟨k', pk'⟩ := plainD_tup q
    rw [toPys_inj xs y k k' pk pk' h]
  | .lst xs, b, n, m, p, q, h => by
    obtain ⟨k, pk⟩ := plainD_lst p
    rcases plainD_ins q with rfl | ⟨y, rfl⟩ | ⟨y, rfl⟩ | ⟨y, rfl⟩ | ⟨y, rfl⟩ | ⟨y, rfl⟩ <;> simp [toPy] at h
    obtain ⟨k', pk'⟩ := plainD_lst q
    rw [toPys_inj xs y k k' pk pk' h]
  | .non, b, n, m, p, q, h => by
    rcases plainD_ins q with rfl | ⟨y, rfl⟩ | ⟨y, rfl⟩ | ⟨y, rfl⟩ | ⟨y, rfl⟩ | ⟨y, rfl⟩ <;> simp [toPy] at h <;> rfl
  | .bl x, b, n, m, p, q, h => by
    rcases plainD_ins q with rfl | ⟨y, rfl⟩ | ⟨y, rfl⟩ | ⟨y, rfl⟩ | ⟨y, rfl⟩ | ⟨y, rfl⟩ <;> simp [toPy] at h <;> rw [h]
  | .int x, b, n, m, p, q, h => by
    rcases plainD_ins q with rfl | ⟨y, rfl⟩ | ⟨y, rfl⟩ | ⟨y, rfl⟩ | ⟨y, rfl⟩ | ⟨y, rfl⟩ <;> simp [toPy] at h <;> rw [h]
  | .str x, b, n, m, p, q, h => by
    rcases plainD_ins q with rfl | ⟨y, rfl⟩ | ⟨y, rfl⟩ | ⟨y, rfl⟩ | ⟨y, rfl⟩ | ⟨y, rfl⟩ <;> simp [toPy] at h <;> rw [tx_inj h]
  | .dct .., b, n, m, p, q, h => by cases n <;> simp [plainD] at p
  | .ins .., b, n, m, p, q, h => by cases n <;> simp [plainD] at p
  | .rg .., b, n, m, p, q, h => by cases n <;> simp [plainD] at p
  | .exc .., b, n, m, p, q, h => by cases n <;> simp [plainD] at p
  | .scr .., b, n, m, p, q, h => by cases n <;> simp [plainD] at p
theorem toPys_inj : ∀ (a b : List D) (n m : Nat), plainDs n a = true → plainDs m b = true → toPys a = toPys b → a = b
  | [], [], n, m, p, q, h => rfl
  | [], _ :: _, n, m, p, q, h => by simp [toPys] at h
  | _ :: _, [], n, m, p, q, h => by simp [toPys] at h
  | x :: xs, y :: ys, n, m, p, q, h => by
    rw [plainDs, Bool.and_eq_true] at p q
    simp only [toPys, List.cons.injEq] at h
    rw [toPy_inj x y n m p.1 q.1 h.1, toPys_inj xs ys n m p.2 q.2 h.2]
end
theorem fold_data {f : D → D → Bool} {g : PyData → PyData → Bool} {P : D → Prop} (hfg : ∀ a b, P a → P b → g (toPy a) (toPy b) = f a b) : ∀ (ys : List D) (x : D), P x → (∀ y ∈ ys, P y) →
    (ys.map toPy).foldl (fun a y => if g y a = true then y else a) (toPy x) = toPy (ys.foldl (fun a y => if f y a = true then y else a) x) ∧ P (ys.foldl (fun a y => if f y a = true then y else a) x)
  | [], x, hx, _ => ⟨rfl, hx⟩
  | y :: ys, x, hx, h => by
    have hy := h y List.mem_cons_self
    have ht : ∀ z ∈ ys, P z := fun z hz => h z (List.mem_cons_of_mem _ hz)
    simp only [List.map_cons, List.foldl_cons]
    rw [hfg y x hy hx]
    cases f y x with
    | true => exact fold_data hfg ys y hy ht
    | false => exact fold_data hfg ys x hx ht
theorem canMin_mem {xs : List D} (h : canMin xs = true) : ∀ x ∈ xs, plainD 5 x = true ∧ ∀ y ∈ xs, alikeD x y = true := fun x hx => by
  have := List.all_eq_true.mp h x hx
  rw [Bool.and_eq_true] at this
  exact ⟨this.1, fun y hy => List.all_eq_true.mp this.2 y hy⟩
theorem alikeD_nn {x : D} (h : alikeD x x = true) : toPy x ≠ .none := by
  cases x <;> first | (simp [alikeD] at h; done) | simp [toPy]
theorem mm_ok (mx : Bool) (hK : X.K = G.K) (hc : X.calm = true) (hu : X.A.units + 65 < cLine) (I : Inv X pins σ H s) (R : Rel G W ms H) {a : Addr} {ws : List V} {ys : List D} (hr : Rd H a (.lst ws)) (hw : VRs G W H ws ys) (hm : canMin ys = true) {d : D} (hd : (if mx then M.maxD ys else M.minD ys) = some d) {Q : VK}
    (q : ∀ W' v H', Ext W W' → Keeps W H H' → Rel G W' ms H' → VR G W' H' v d → Q v H') : wpAny (model X.prog X.w) X.A (call (.builtin (if mx then "max" else "min")) [.ref a]) (EP X pins σ Q) X.xe s := by
  obtain ⟨its, rv, hpl, _⟩ := I.list (sqL_of hK hr)
  cases ys with
  | nil => cases mx <;> simp [M.maxD, M.minD] at hd
  | cons y ys =>
    have mem := canMin_mem hm
    have pl : plainDs 5 (y :: ys) = true := by
      have aux : ∀ {zs : List D}, (∀ z ∈ zs, plainD 5 z = true) → plainDs 5 zs = true := by
        intro zs
        induction zs with
        | nil => intro _; rw [plainDs]
        | cons z zs ih => intro h; rw [plainDs, h z List.mem_cons_self, ih fun w hw => h w (List.mem_cons_of_mem _ hw)]; rfl
      exact aux fun z hz => (mem z hz).1
    have dp := dps_of pl hw
    rw [← hK] at dp
    obtain ⟨as, hra⟩ := Dp.readsAll I _ _ _ dp rv
    have hdep := (lays_of pl hw).2
    have ha : PySem.W.AlikeAll (toPys (y :: ys)) := by
      rw [toPys_map]
      refine ⟨fun x hx z hz => ?_, fun x hx => ?_⟩
      · obtain ⟨b, hb, rfl⟩ := List.mem_map.mp hx
        obtain ⟨c, hc', rfl⟩ := List.mem_map.mp hz
        exact (ltD_data b c 5 5 (mem b hb).1 (mem c hc').1 ((mem b hb).2 c hc')).1
      · obtain ⟨b, hb, rfl⟩ := List.mem_map.mp hx
        exact alikeD_nn ((mem b hb).2 b hb)
    have room : X.A.units + 1 + PyData.depthAll (toPys (y :: ys)) < cLine := by omega
    have hra' : ReadsAll s.heap its.toArray.toList (toPy y :: toPys ys) as := by simpa [toPys] using hra
    have fin : ∀ (i : Nat) (v : Value) (h' : Heap) (tk : Nat) (bs : List Addr) (m : PyData), toPy d = m → d ∈ y :: ys → its.toArray[i]? = some v → Reads h' v m bs → (∀ b o, s.heap.get? b = some o → h'.get? b = some o) → EP X pins σ Q v { s with heap := h', toks := tk } := by
      intro i v h' tk bs m em dm hv rm hk
      have hv' : its[i]? = some v := by simpa using hv
      obtain ⟨x, hx, rx⟩ : ∃ x, ws[i]? = some x ∧ RelV x v := by
        cases e : ws[i]? with
        | none =>
          have := rv.none_of e
          rw [this] at hv'; cases hv'
        | some x =>
          obtain ⟨u, h1, h2⟩ := rv.get e
          rw [h1] at hv'
          cases hv'
          exact ⟨x, rfl, h2⟩
      obtain ⟨dx, hdx, vx⟩ := hw.get' hx
      have hmx : dx ∈ y :: ys := List.mem_of_getElem? hdx
      have dpx := dp_of (mem dx hmx).1 vx
      rw [← hK] at dpx
      have I' : Inv X pins σ H { s with heap := h', toks := tk } := I.kept hk
      obtain ⟨cs, rx2⟩ := Dp.reads I' _ _ _ dpx rx
      have al : alike (toPy dx) m = true := by
        rw [← em]
        exact (ltD_data dx d 5 5 (mem dx hmx).1 (mem d dm).1 ((mem dx hmx).2 d dm)).1
      have e1 : toPy dx = m := PySem.W.alike_unique _ _ _ _ _ al rx2 rm
      have e2 : dx = d := toPy_inj dx d 5 5 (mem dx hmx).1 (mem d dm).1 (e1.trans em.symm)
      subst e2
      exact EP.mk I' rx (q W x H (Ext.refl W) (Keeps.refl W H) R vx)
    have pf : ∀ a b : D, a ∈ y :: ys → b ∈ y :: ys → dataLt (toPy a) (toPy b) = ltD a b := fun a b h1 h2 => (ltD_data a b 5 5 (mem a h1).1 (mem b h2).1 ((mem a h1).2 b h2)).2
    cases mx with
    | false =>
      simp only [M.minD, Option.some.injEq, if_neg Bool.false_ne_true] at hd
      have fd := fold_data (f := ltD) (g := dataLt) (P := fun z => z ∈ y :: ys) pf ys y List.mem_cons_self (fun z hz => List.mem_cons_of_mem _ hz)
      refine PySem.W.min_list_data (I.ok.hd hc) hpl.isList hra' (by rw [toPys] at ha; exact ha) (by rw [toPys] at room; exact room) fun i v h' tk bs hv rm hk => fin i v h' tk bs _ ?_ (by rw [← hd]; exact fd.2) hv rm hk
      unfold PySem.W.minD
      rw [← hd, toPys_map]
      exact fd.1.symm
    | true =>
      simp only [M.maxD, Option.some.injEq, if_true] at hd
      have fd := fold_data (f := fun a b => ltD b a) (g := fun a b => dataLt b a) (P := fun z => z ∈ y :: ys) (fun a b h1 h2 => pf b a h2 h1) ys y List.mem_cons_self (fun z hz => List.mem_cons_of_mem _ hz)
      refine PySem.W.max_list_data (I.ok.hd hc) hpl.isList hra' (by rw [toPys] at ha; exact ha) (by rw [toPys] at room; exact room) fun i v h' tk bs hv rm hk => fin i v h' tk bs _ ?_ (by rw [← hd]; exact fd.2) hv rm hk
      unfold PySem.W.maxD
      rw [← hd, toPys_map]
      exact fd.1.symm
theorem lb_min1 (hK : X.K = G.K) (hc : X.calm = true) (hu : X.A.units + 65 < cLine) : CallR X (.builtin "min") (rL G fun s ds => callB s .min1 ds) := by
  intro pins s σ H xs us Q I r ⟨W, ms, ds, d, R, vs, e, q⟩
  match ds, e with
  | [dx], e =>
    obtain ⟨x, rfl, vx⟩ := vrs1 vs
    simp only [callB] at e
    cases hq : lstOf ms dx with
    | none => rw [hq] at e; cases e
    | some ys =>
      rw [hq] at e
      simp only [Option.bind_some] at e
      split at e
      · rename_i c
        obtain ⟨a, ws, rfl, hr, hw⟩ := lst_of R vx hq
        rw [Vals.ref1 r]
        exact mm_ok false hK hc hu I R hr hw c e q
      · cases e
  | [], e => simp [callB] at e
  | _ :: _ :: _, e => simp [callB] at e
theorem lb_max1 (hK : X.K = G.K) (hc : X.calm = true) (hu : X.A.units + 65 < cLine) : CallR X (.builtin "max") (rL G fun s ds => callB s .max1 ds) := by
  intro pins s σ H xs us Q I r ⟨W, ms, ds, d, R, vs, e, q⟩
  match ds, e with
  | [dx], e =>
    obtain ⟨x, rfl, vx⟩ := vrs1 vs
    simp only [callB] at e
    cases hq : lstOf ms dx with
    | none => rw [hq] at e; cases e
    | some ys =>
      rw [hq] at e
      simp only [Option.bind_some] at e
      split at e
      · rename_i c
        obtain ⟨a, ws, rfl, hr, hw⟩ := lst_of R vx hq
        rw [Vals.ref1 r]
        exact mm_ok true hK hc hu I R hr hw c e q
      · cases e
  | [], e => simp [callB] at e
  | _ :: _ :: _, e => simp [callB] at e
end
end MS

set_option Elab.async false
set_option linter.all false
set_option maxRecDepth 100000
set_option maxHeartbeats 400000
set_option autoImplicit false
/-! S8: what changes cells; methods. -/
namespace MS
open PySem L2 M

section
variable {G : G0} {X : Cx} {pins : List (Addr × Obj)} {σ : L2.St} {H : Hp} {s : Shared} {W : Wd} {ms : S}
theorem below_low {b : Nat} : ∀ (n : Nat) (d : D) (v : V), below b n d = true → VR G W H v d → VR G (W.low b) H v d := by
  intro n
  induction n with
  | zero =>
    intro d v hb h
    cases h with
    | non => exact .non
    | bl b => exact .bl b
    | int b => exact .int b
    | str x o => exact .str x o
    | scr q => exact .scr q
    | exc z q => exact .exc z q
    | rg q =>
      simp only [below, decide_eq_true_eq] at hb
      exact .rg (by show (W.φ.take b)[_]? = _; rw [List.getElem?_take_of_lt hb]; exact q)
    | _ => simp [below] at hb
  | succ n ih =>
    have ihs : ∀ {ds : List D} {vs : List V}, ds.all (below b n) = true → VRs G W H vs ds → VRs G (W.low b) H vs ds := by
      intro ds
      induction ds with
      | nil => intro vs _ h; cases h; exact .nil
      | cons d ds ih2 =>
        intro vs hb h
        cases h with
        | cons hv ht =>
          rw [List.all_cons, Bool.and_eq_true] at hb
          exact .cons (ih d _ hb.1 hv) (ih2 hb.2 ht)
    intro d v hb h
    cases h with
    | non => exact .non
    | bl b => exact .bl b
    | int b => exact .int b
    | str x o => exact .str x o
    | scr q => exact .scr q
    | exc z q => exact .exc z q
    | rg q =>
      simp only [below, decide_eq_true_eq] at hb
      exact .rg (by show (W.φ.take b)[_]? = _; rw [List.getElem?_take_of_lt hb]; exact q)
    | tup q t => exact .tup q (ihs hb t)
    | lst z q t => exact .lst z q (ihs hb t)
    | dK z q t p w => exact .dK z q t p (ihs hb w)
    | dT z q t p w => exact .dT z q t p (ihs hb w)
    | ins z q p w => exact .ins z q p (ihs hb w)
theorem mayPut_low {k : Nat} {d : D} {v : V} (h : mayPut ms k d = true) (hv : VR G W H v d) {b : Nat} (hb : b ∈ ms.bs) (hk : k < b) : VR G (W.low b) H v d := by
  have := List.all_eq_true.mp h b hb
  rw [Bool.or_eq_true] at this
  rcases this with h1 | h1
  · simp at h1; omega
  · exact below_low 8 d v h1 hv
/-- an unlocked cell -/
theorem Rel.cellU (r : Rel G W ms H) {k : Nat} {a : Addr} {c : Cell} (ha : W.φ[k]? = some a) (hc : ms.cs[k]? = some ⟨false, c⟩) : ∃ u, H a = some u ∧ HoR G W H u c ∧ ∀ b ∈ ms.bs, k < b → HoR G (W.low b) H u c := by
  obtain ⟨u, q, z, _⟩ := r.cell k a _ ha hc
  refine ⟨u, z rfl, q, fun b hb hk => ?_⟩
  obtain ⟨u2, q2, z2, _⟩ := r.low b hb k a _ hk ha hc
  have := (z rfl).symm.trans (z2 rfl)
  cases this
  exact q2
theorem HoR.mut {u : HO} {c : Cell} (h : HoR G W H u c) : (∀ xs, u ≠ .tup xs) ∧ (∀ o w, u ≠ .frz o w) := by
  cases h <;> exact ⟨fun _ e => (by cases e), fun _ _ e => (by cases e)⟩
/-- a cell is written -/
theorem Rel.write (r : Rel G W ms H) {k : Nat} {a : Addr} {c c' : Cell} {u u' : HO} (ha : W.φ[k]? = some a) (hc : ms.cs[k]? = some ⟨false, c⟩) (hu : H a = some u) (hr : HoR G W H u c) (hn : HoR G W H u' c') (hl : ∀ b ∈ ms.bs, k < b → HoR G (W.low b) H u' c') :
    Keeps W H (upd H a u') ∧ Rel G W (setCell ms k c') (upd H a u') := by
  obtain ⟨m1, m2⟩ := hr.mut
  have nz : ∀ x, W.Z x → x ≠ a := fun x hz e => r.sep a (List.mem_of_getElem? ha) (e ▸ hz)
  have np : ∀ x, W.P x → x ≠ a := fun x hz e => r.sepP a (List.mem_of_getElem? ha) (e ▸ hz)
  have kk : ∀ W' : Wd, W'.Z = W.Z → W'.P = W.P → Keeps W' H (upd H a u') := fun W' e e2 => by
    have zz : ∀ x, W'.Z x → (upd H a u') x = H x := fun x hz => upd_ne (nz x (e ▸ hz))
    exact { tup := fun x xs h => by rw [upd_ne (fun e => by subst e; rw [hu] at h; cases h; exact m1 _ rfl)]; exact h
            frz := fun x o w h => by rw [upd_ne (fun e => by subst e; rw [hu] at h; cases h; exact m2 _ _ rfl)]; exact h
            z := fun x w hz _ h => by unfold Rd at *; rw [zz x hz]; exact h
            zi := fun x _ _ _ hz h => by rw [zz x hz]; exact h
            ze := fun x _ hz h => by rw [zz x hz]; exact h
            pin := fun x w hz h => by rw [upd_ne (np x (e2 ▸ hz))]; exact h }
  have hk : k < ms.cs.length := (List.getElem?_eq_some_iff.mp hc).1
  refine ⟨kk W rfl rfl, ⟨by show W.φ.length = (ms.cs.set k _).length; rw [List.length_set]; exact r.len, r.nd, fun n x y h1 h2 => ?_, fun b hb n x y hnb h1 h2 => ?_, fun b hb => by show b ≤ (ms.cs.set k _).length; rw [List.length_set]; exact r.bsz b hb, r.sep, fun x hz h => ?_, r.sepP, fun x hz h => ?_, r.sepZ⟩⟩
  · have h2' : (ms.cs.set k ⟨false, c'⟩)[n]? = some y := h2
    by_cases e : n = k
    · subst e
      rw [ha] at h1
      cases h1
      rw [List.getElem?_set_self hk] at h2'
      cases h2'
      exact ⟨u', hn.mono (Ext.refl W) (kk W rfl rfl).toKeep0, fun _ => upd_same, fun z => by cases z⟩
    · rw [List.getElem?_set_ne (Ne.symm e)] at h2'
      obtain ⟨w, q, z1, z2⟩ := r.cell n x y h1 h2'
      have ne : x ≠ a := fun e2 => by
        subst e2
        have l1 := (List.getElem?_eq_some_iff.mp h1).1
        have l2 := (List.getElem?_eq_some_iff.mp ha).1
        exact e (List.getElem_inj (h₀ := l1) (h₁ := l2) r.nd |>.mp ((List.getElem?_eq_some_iff.mp h1).2.trans (List.getElem?_eq_some_iff.mp ha).2.symm))
      exact ⟨w, q.mono (Ext.refl W) (kk W rfl rfl).toKeep0, fun z => by rw [upd_ne ne]; exact z1 z, fun z => by rw [upd_ne ne]; exact z2 z⟩
  · have h2' : (ms.cs.set k ⟨false, c'⟩)[n]? = some y := h2
    by_cases e : n = k
    · subst e
      rw [ha] at h1
      cases h1
      rw [List.getElem?_set_self hk] at h2'
      cases h2'
      exact ⟨u', (hl b hb hnb).mono (Ext.refl _) (kk (W.low b) rfl rfl).toKeep0, fun _ => upd_same, fun z => by cases z⟩
    · rw [List.getElem?_set_ne (Ne.symm e)] at h2'
      obtain ⟨w, q, z1, z2⟩ := r.low b hb n x y hnb h1 h2'
      have ne : x ≠ a := fun e2 => by
        subst e2
        have l1 := (List.getElem?_eq_some_iff.mp h1).1
        have l2 := (List.getElem?_eq_some_iff.mp ha).1
        exact e (List.getElem_inj (h₀ := l1) (h₁ := l2) r.nd |>.mp ((List.getElem?_eq_some_iff.mp h1).2.trans (List.getElem?_eq_some_iff.mp ha).2.symm))
      exact ⟨w, q.mono (Ext.refl _) (kk (W.low b) rfl rfl).toKeep0, fun z => by rw [upd_ne ne]; exact z1 z, fun z => by rw [upd_ne ne]; exact z2 z⟩
  · have e : x ≠ a := nz x hz
    rw [upd_ne e] at h
    exact r.zok x hz h
  · have e : x ≠ a := np x hz
    rw [upd_ne e] at h
    exact r.pok x hz h
theorem VR.rg_ {v : V} {n : Nat} (h : VR G W H v (.rg n)) : ∃ a, v = .ref a ∧ W.φ[n]? = some a := by
  cases h with
  | rg q => exact ⟨_, rfl, q⟩
theorem HoR.lst_ {u : HO} {xs : List D} (h : HoR G W H u (.lst xs)) : ∃ vs, u = .lst vs ∧ VRs G W H vs xs := by
  cases h with
  | lst h => exact ⟨_, rfl, h⟩
/-- a method of a built-in type on values -/
def rM (G : G0) (f : S → D → List D → R D) : V → List V → Hp → VK → Prop := fun x xs H Q => ∃ W s dx ds, Rel G W s H ∧ VR G W H x dx ∧ VRs G W H xs ds ∧ Post G (VR G) W H (f s dx ds) Q (fun _ _ => False)
theorem lm_append : MtR X "list.append" (rM G fun s x ds => callM s .append x ds) := by
  intro pins s σ H x xs v us Q I rx rxs ⟨W, ms, dx, ds, R, vx, vs, P⟩
  match ds, P with
  | [dy], P =>
    obtain ⟨y, rfl, vy⟩ := vrs1 vs
    cases dx with
    | rg k =>
      simp only [callM] at P
      cases hc : ms.cs[k]? with
      | none => rw [hc] at P; exact P.elim
      | some c =>
        obtain ⟨l, c⟩ := c
        cases l with
        | true => rw [hc] at P; exact P.elim
        | false =>
          cases c with
          | lst ys =>
            rw [hc] at P
            simp only at P
            split at P
            · rename_i cc
              rw [Bool.and_eq_true, decide_eq_true_eq] at cc
              obtain ⟨a, rfl, ha⟩ := vx.rg_
              obtain ⟨u, hu, hr, hl⟩ := R.cellU ha hc
              obtain ⟨ws, rfl, hw⟩ := hr.lst_
              refine mt_append pins s σ H _ _ v us Q I rx rxs ⟨a, ws, y, rfl, rfl, hu, by rw [hw.length, ← LIM_eq]; exact cc.1, ?_⟩
              obtain ⟨k1, r1⟩ := R.write ha hc hu hr (HoR.lst (hw.snoc vy)) fun b hb hk => by
                obtain ⟨ws', e, hw'⟩ := (hl b hb hk).lst_
                cases e
                exact HoR.lst (hw'.snoc (mayPut_low cc.2 vy hb hk))
              exact Post.ret P (Ext.refl W) k1 r1 .non
            · exact P.elim
          | _ => rw [hc] at P; exact P.elim
    | _ => exact P.elim
  | [], P => exact P.elim
  | _ :: _ :: _, P => exact P.elim
theorem all_low {k : Nat} {b : Nat} (hb : b ∈ ms.bs) (hk : k < b) : ∀ {ds : List D} {vs : List V}, ds.all (mayPut ms k) = true → VRs G W H vs ds → VRs G (W.low b) H vs ds
  | [], _, _, h => by cases h; exact .nil
  | d :: ds, _, p, h => by
    cases h with
    | cons hv ht =>
      rw [List.all_cons, Bool.and_eq_true] at p
      exact .cons (mayPut_low p.1 hv hb hk) (all_low hb hk p.2 ht)
theorem ext_ok {l b : Addr} {xs zs : List V} {Q : VK} (I : Inv X pins σ H s) (hH : H l = some (.lst xs)) (hB : Rd H b (.lst zs)) (hz : xs.length + zs.length ≤ sizeLine) (q : Q .non (upd H l (.lst (xs ++ zs)))) :
    wpAny (model X.prog X.w) X.A (call (.builtin "list.extend") [.ref l, .ref b]) (EP X pins σ Q) X.xe s := by
  obtain ⟨z, its, n, r, hl, e⟩ := lstR I (.inl hH)
  obtain ⟨z2, its2, n2, r2, hl2, e2⟩ := lstR I hB
  have hsz : its.toArray.size + its2.toArray.size ≤ sizeLine := by rw [List.size_toArray, List.size_toArray]; omega
  have hlong : ¬ (!its.toArray.isEmpty && Builtin.List.listTooLong (its.toArray.size + its2.toArray.size)) = true := by
    rw [notLongL hsz, Bool.and_false]
    exact Bool.false_ne_true
  refine call_meets F.slot_list_extend ⟨_, e, rfl⟩ F.entry_list_extend (F.args_list_extend_2 _ _)
    (AutoSeq1.list_extend_list_list_0 l its.toArray n b its2.toArray n2 hlong (by rw [List.size_toArray]; omega) (by omega)) ⟨e, e2, ?_⟩
  refine ⟨.non, _, I.lset (its' := its ++ its2) hH e (by simp) (r.append r2) ?_, rfl, q⟩
  rw [List.length_append]
  omega
theorem lm_extend : MtR X "list.extend" (rM G fun s x ds => callM s .extend x ds) := by
  intro pins s σ H x xs v us Q I rx rxs ⟨W, ms, dx, ds, R, vx, vs, P⟩
  match ds, P with
  | [dy], P =>
    obtain ⟨y, rfl, vy⟩ := vrs1 vs
    cases dx with
    | rg k =>
      simp only [callM] at P
      cases hc : ms.cs[k]? with
      | none => rw [hc] at P; exact P.elim
      | some c =>
        obtain ⟨l, c⟩ := c
        cases l with
        | true => rw [hc] at P; exact P.elim
        | false =>
          cases c with
          | lst ys =>
            rw [hc] at P
            cases hq : lstOf ms dy with
            | none => rw [hq] at P; exact P.elim
            | some zs =>
              rw [hq] at P
              simp only at P
              split at P
              · rename_i cc
                rw [Bool.and_eq_true, decide_eq_true_eq] at cc
                obtain ⟨a, rfl, ha⟩ := vx.rg_
                obtain ⟨u, hu, hr, hl⟩ := R.cellU ha hc
                obtain ⟨ws, rfl, hw⟩ := hr.lst_
                obtain ⟨b, ws2, rfl, hr2, hw2⟩ := lst_of R vy hq
                cases rx
                obtain ⟨u2, rfl, ru⟩ := rxs.one
                cases ru
                refine ext_ok I hu hr2 (by rw [hw.length, hw2.length, ← LIM_eq]; exact cc.1) ?_
                obtain ⟨k1, r1⟩ := R.write ha hc hu hr (HoR.lst (hw.append hw2)) fun b hb hk => by
                  obtain ⟨ws', e, hw'⟩ := (hl b hb hk).lst_
                  cases e
                  exact HoR.lst (hw'.append (all_low hb hk cc.2 hw2))
                exact Post.ret P (Ext.refl W) k1 r1 .non
              · exact P.elim
          | _ => rw [hc] at P; exact P.elim
    | _ => exact P.elim
  | [], P => exact P.elim
  | _ :: _ :: _, P => exact P.elim
theorem join_tx (sep : Tx) (xs : List Tx) : Txt.join (tx sep) (xs.map tx) = tx (joinT sep xs) := by
  show PySem.Builtin.Str.glued (tx sep) (xs.map tx) = _
  rw [PySem.StrLaws.glued_eq_join]
  induction xs with
  | nil => rfl
  | cons x r ih =>
    cases r with
    | nil => rfl
    | cons y r =>
      show tx x ++ tx sep ++ Str.join (tx sep) ((y :: r).map tx) = _
      rw [ih, tx_app, tx_app]
      simp only [joinT]
theorem okT_join {sep : Tx} (hs : okT sep = true) : ∀ {xs : List Tx}, (∀ x ∈ xs, okT x = true) → okT (joinT sep xs) = true
  | [], _ => rfl
  | [x], h => h x List.mem_cons_self
  | x :: y :: r, h => by
    simp only [joinT]
    exact okT_app (okT_app (h x List.mem_cons_self) hs) (okT_join hs fun z hz => h z (List.mem_cons_of_mem _ hz))
theorem lm_join (hK : X.K = G.K) : MtR X "str.join" (rM G fun s x ds => callM s .join x ds) := by
  intro pins s σ H x xs v us Q I rx rxs ⟨W, ms, dx, ds, R, vx, vs, P⟩
  match ds, P with
  | [dy], P =>
    obtain ⟨y, rfl, vy⟩ := vrs1 vs
    cases dx with
    | str sep =>
      obtain ⟨rfl, osep⟩ := vx.str_
      simp only [callM] at P
      cases hq : seqOf ms dy with
      | none => rw [hq] at P; exact P.elim
      | some zs =>
        rw [hq] at P
        cases ht : txsOf zs with
        | none => simp only [Option.bind_some, ht] at P; exact P.elim
        | some ts =>
          simp only [Option.bind_some, ht] at P
          split at P
          · rename_i cc
            obtain ⟨b, ws2, rfl, hr2, hw2⟩ := seq_of R vy hq
            obtain ⟨e1, o1⟩ := txs_v ht hw2
            have e2 : ws2 = (ts.map tx).map V.str := by rw [e1, List.map_map]; rfl
            refine mt_join pins s σ H _ _ v us Q I rx rxs ⟨tx sep, b, ts.map tx, rfl, rfl, (by rw [← e2, hK]; exact hr2), ?_, ?_⟩
            · have e3 : (ts.map tx).map (·.length) = ts.map List.length := by
                rw [List.map_map]
                exact List.map_congr_left fun z _ => tx_len z
              rw [e3, List.length_map, tx_len]
              exact cc
            · rw [join_tx]
              exact Post.now P R (.str _ (okT_join osep o1))
          · exact P.elim
    | _ => exact P.elim
  | [], P => exact P.elim
  | _ :: _ :: _, P => exact P.elim
end
end MS

set_option Elab.async false
set_option linter.all false
set_option maxRecDepth 100000
set_option maxHeartbeats 400000
set_option autoImplicit false
/-! S9: statements' readings; what is walked; locks; loops; comprehensions. -/
namespace MS
open PySem L2 M

section
variable {G : G0} {X : Cx} {Wx : WX} {K : Calls} {σ : L2.St} {H H' : Hp} {W W' : Wd} {s s' : S}
/-! ### statements -/
def PostF (G : G0) (Wx : WX) (W : Wd) (H : Hp) (r : F) (D : Ends) : Prop :=
  match r with
  | .nx e s => ∀ W' σ' H', Ext W W' → Keeps W H H' → Rel G W' s H' → EnvR G W' H' σ' e → D.nx σ' H'
  | .rt d s => ∀ W' v H', Ext W W' → Keeps W H H' → Rel G W' s H' → VR G W' H' v d → D.rt v H'
  | .exc c e s => ∀ W' σ' H', Ext W W' → Keeps W H H' → Rel G W' s H' → EnvR G W' H' σ' e → Wx (.ref (G.cA c)) none σ' H'
  | .bad => False
theorem PostF.rebase {r : F} {D : Ends} (h : PostF G Wx W H r D) {W1 : Wd} {H1 : Hp} (e : Ext W W1) (k : Keeps W H H1) : PostF G Wx W1 H1 r D := by
  cases r with
  | nx a s => exact fun W' b H' e' k' => h W' b H' (e.trans e') (k.trans e k')
  | rt a s => exact fun W' b H' e' k' => h W' b H' (e.trans e') (k.trans e k')
  | exc c a s => exact fun W' b H' e' k' => h W' b H' (e.trans e') (k.trans e k')
  | bad => exact h
/-- a statement's, a block's reading -/
def tS (G : G0) (Wx : WX) (K : Calls) (m : DS) : TS := fun D σ H => ∃ W s e, Rel G W s H ∧ EnvR G W H σ e ∧ PostF G Wx W H (evS K m e s) D
def tSs (G : G0) (Wx : WX) (K : Calls) (ms : List DS) : TS := fun D σ H => ∃ W s e, Rel G W s H ∧ EnvR G W H σ e ∧ PostF G Wx W H (evSs K ms e s) D
theorem _root_.L2.PS.imp {X : Cx} {st : Stmt} {t t' : TS} (h : PS X st t) (f : ∀ D σ H, t' D σ H → t D σ H) : PS X st t' := ⟨fun pins s σ H D I q => h.run pins s σ H D I (f _ _ _ q)⟩
theorem _root_.L2.PSs.imp {X : Cx} {st : List Stmt} {t t' : TS} (h : PSs X st t) (f : ∀ D σ H, t' D σ H → t D σ H) : PSs X st t' := ⟨fun pins s σ H D I q => h.run pins s σ H D I (f _ _ _ q)⟩
theorem _root_.L2.PI.imp {X : Cx} {tg it : Expr} {t t' : TI} (h : PI X tg it t) (f : ∀ σ H R, t' σ H R → t σ H R) : PI X tg it t' := ⟨fun pins s σ H D I q => h.run pins s σ H D I (f _ _ _ q)⟩
theorem _root_.L2.PI.or {X : Cx} {tg it : Expr} {t t' : TI} (h : PI X tg it t) (h' : PI X tg it t') : PI X tg it (fun σ H R => t σ H R ∨ t' σ H R) := ⟨fun pins s σ H D I q => q.elim (h.run pins s σ H D I) (h'.run pins s σ H D I)⟩
/-- the value within a statement -/
theorem PostF.st {α β : Type} {rel : Wd → Hp → β → α → Prop} {r : R α} {env : M.Env} {f : α → S → F} {D : Ends} (hE : EnvR G W H σ env) (h : PostF G Wx W H (r.st env f) D) {Q : β → Hp → Prop}
    (g : ∀ d s1 W1 b H1, Ext W W1 → Keeps W H H1 → Rel G W1 s1 H1 → rel W1 H1 b d → PostF G Wx W1 H1 (f d s1) D → Q b H1) : Post G rel W H r Q (wx G Wx σ) := by
  cases r with
  | ok a s => exact fun W' b H' e' k' q rr => g a s W' b H' e' k' q rr (PostF.rebase h e' k')
  | exc c s => exact fun W' H' e' k' q => h W' σ H' e' k' q (hE.mono e' k'.toKeep0)
  | bad => exact h
theorem PostF.nxt {e : M.Env} {D : Ends} (h : PostF G Wx W H (.nx e s) D) (r : Rel G W s H) (q : EnvR G W H σ e) : D.nx σ H := h W σ H (Ext.refl W) (Keeps.refl W H) r q
end
section
variable {G : G0} {X : Cx} {Wx : WX} {K : Calls} {σ : L2.St} {H H' : Hp} {W W' : Wd} {s s' : S} {e : M.Env}
theorem EnvR.put (h : EnvR G W H σ e) {i : Nat} {v : V} {d : D} (hv : VR G W H v d) : EnvR G W H (σ.set i (some v)) (e.set i (some d)) := by
  refine ⟨by rw [List.length_set, List.length_set]; exact h.len, fun j x hx => ?_⟩
  by_cases hj : i = j
  · subst hj
    have hl : i < e.length := by
      have := (List.getElem?_eq_some_iff.mp hx).1
      simpa using this
    rw [List.getElem?_set_self hl] at hx
    cases hx
    exact ⟨v, by rw [List.getElem?_set_self (by rw [h.len]; exact hl)], hv⟩
  · rw [List.getElem?_set_ne hj] at hx ⊢
    exact h.at_ j x hx
theorem EnvR.del (h : EnvR G W H σ e) {i : Nat} : EnvR G W H (σ.set i none) (e.set i none) := by
  refine ⟨by rw [List.length_set, List.length_set]; exact h.len, fun j x hx => ?_⟩
  by_cases hj : i = j
  · subst hj
    have hl : i < e.length := by
      have := (List.getElem?_eq_some_iff.mp hx).1
      simpa using this
    rw [List.getElem?_set_self hl] at hx
    cases hx
  · rw [List.getElem?_set_ne hj] at hx ⊢
    exact h.at_ j x hx
theorem EnvR.wipe (h : EnvR G W H σ e) : ∀ vs : List Nat, EnvR G W H (L2.wipe σ vs) (M.wipe e vs)
  | [] => h
  | v :: vs => (EnvR.wipe h vs).del
/-! ### what is walked -/
def IsWalk (G : G0) (W : Wd) (H : Hp) (J : It) (xs : List D) : Prop := ∃ (Φ : Hp → Prop) (Y : Nat → Hp → V → Hp → Prop), Walk J xs.length Φ Y ∧ Φ H ∧ (∀ W' H', Ext W W' → Keeps W H H' → Φ H') ∧
  ∀ i H1 x H2, i < xs.length → Y i H1 x H2 → H2 = H1 ∧ ∀ W', Ext W W' → Keeps W H H1 → ∃ d, xs[i]? = some d ∧ VR G W' H1 x d
/-- what a for or a comprehension walks -/
def PostI (G : G0) (Wx : WX) (σ : L2.St) (k : IK) (W : Wd) (H : Hp) (r : R (List D)) (Q : It → Hp → Prop) : Prop :=
  match r with
  | .ok ds s => match items s k ds with
    | some (xs, none) => ∀ W' J H', Ext W W' → Keeps W H H' → Rel G W' s H' → IsWalk G W' H' J xs → Q J H'
    | _ => False
  | .exc c s => ∀ W' H', Ext W W' → Keeps W H H' → Rel G W' s H' → Wx (.ref (G.cA c)) none σ H'
  | .bad => False
def tI (G : G0) (Wx : WX) (K : Calls) (k : IK) (es : List DE) : TI := fun σ H Q => ∃ W s e, Rel G W s H ∧ EnvR G W H σ e ∧ PostI G Wx σ k W H (evEs K es e s) Q
theorem walk_vrs {xs : List D} {vs : List V} (h : VRs G W H vs xs) {J : It} {Φ : Hp → Prop} (w : Walk J vs.length Φ (YAt vs)) (h0 : Φ H) (hk : ∀ W' H', Ext W W' → Keeps W H H' → Φ H') : IsWalk G W H J xs := by
  refine ⟨Φ, YAt vs, by rw [← h.length]; exact w, h0, hk, fun i H1 x H2 hi y => ?_⟩
  obtain ⟨rfl, hx⟩ := y
  refine ⟨rfl, fun W' e' k' => ?_⟩
  obtain ⟨d, h1, h2⟩ := h.get' hx
  exact ⟨d, h1, h2.mono e' k'.toKeep0⟩
theorem evEs1 {m : DE} {env : M.Env} {s : S} : evEs K [m] env s = (evE K m env s).bind fun d s => .ok [d] s := by
  simp only [evEs]
  cases evE K m env s <;> rfl
theorem isWalk_e (hK : X.K = G.K) (R : Rel G W s H) {d : D} {v : V} {xs : List D} (hv : VR G W H v d) (hi : items s .e [d] = some (xs, none)) {Q : It → Hp → Prop} (q : ∀ J, IsWalk G W H J xs → Q J H) :
    (∃ a, v = .ref a ∧ (∃ ys, SqL X.K H a ys) ∧ Q (Itl X.K a) H) ∨ (∃ a, v = .ref a ∧ (∃ ys, SqT X.K H a ys) ∧ Q (Itt X.K a) H) ∨ ∃ z, v = .str z ∧ Q (Its z) H := by
  cases d with
  | tup ys =>
    cases hi
    cases hv with
    | @tup a vs _ ht hvs =>
      refine .inr (.inl ⟨a, rfl, ⟨vs, .inl (.inl ht)⟩, q _ (walk_vrs hvs walk_tup (.inl (.inl ht)) fun W' H' e' k' => .inl (.inl (k'.tup _ _ ht)))⟩)
  | lst ys =>
    cases hi
    cases hv with
    | @lst a vs _ z hr hvs =>
      exact .inl ⟨a, rfl, ⟨vs, .inl hr⟩, q _ (walk_vrs hvs walk_list (.inl hr) fun W' H' e' k' => .inl (k'.z _ _ z trivial hr))⟩
  | str x =>
    cases hi
    obtain ⟨rfl, o⟩ := hv.str_
    refine .inr (.inr ⟨tx x, rfl, q _ ⟨fun _ => True, _, by have := walk_str (z := tx x); rw [List.length_map]; have e1 : (tx x).cps.size = x.length := by simp [tx]
                                                            rw [← e1]; exact this, trivial, fun _ _ _ _ => trivial, fun i H1 y H2 hi y1 => ?_⟩⟩)
    obtain ⟨rfl, c, hc, rfl⟩ := y1
    refine ⟨rfl, fun W' _ _ => ⟨.str [c], ?_, ?_⟩⟩
    · have : x[i]? = some c := by simpa [tx] using hc
      rw [List.getElem?_map, this]; rfl
    · have : x[i]? = some c := by simpa [tx] using hc
      rw [tx_one]
      exact .str _ (okT_mem o (List.mem_of_getElem? this))
  | rg n =>
    simp only [items] at hi
    cases hc : s.cs[n]? with
    | none => rw [hc] at hi; cases hi
    | some x =>
      obtain ⟨l, c⟩ := x
      cases c with
      | lst ys =>
        rw [hc] at hi
        cases l with
        | false => simp at hi
        | true =>
          simp only [if_true, Option.some.injEq, Prod.mk.injEq, and_true] at hi
          subst hi
          obtain ⟨a, rfl, ha⟩ := hv.rg_
          obtain ⟨u, q1, _, z2⟩ := R.cell n a _ ha hc
          obtain ⟨o, z⟩ := z2 rfl
          obtain ⟨vs, rfl, hvs⟩ := q1.lst_
          exact .inl ⟨a, rfl, ⟨vs, .inl (.inr ⟨o, z⟩)⟩, q _ (walk_vrs hvs walk_list (.inl (.inr ⟨o, z⟩)) fun W' H' e' k' => .inl (.inr ⟨o, k'.frz _ _ _ z⟩))⟩
      | _ => rw [hc] at hi; cases hi
  | _ => simp [items] at hi
/-- over an expression's list, tuple, text -/
theorem i_e (hK : X.K = G.K) {m : DE} {tg ie : Expr} (he : PE X ie (tE G Wx K m)) : PI X tg ie (tI G Wx K .e [m]) := by
  have three : PE X ie (tE G Wx K m) := he
  refine ⟨fun pins sh σ H Q I h => ?_⟩
  obtain ⟨W, s, e, R, ER, P⟩ := h
  rw [evEs1] at P
  cases hr : evE K m e s with
  | bad => rw [hr] at P; exact P.elim
  | exc c s1 =>
    rw [hr] at P
    refine (pi_list he).run pins sh σ H Q I ⟨W, s, e, R, ER, ?_⟩
    rw [hr]
    exact P
  | ok d s1 =>
    rw [hr] at P
    simp only [M.R.bind, PostI] at P
    cases hi : items s1 .e [d] with
    | none => rw [hi] at P; exact P.elim
    | some p =>
      obtain ⟨xs, o⟩ := p
      cases o with
      | some n => rw [hi] at P; exact P.elim
      | none =>
        rw [hi] at P
        simp only at P
        have kd : (∀ W1 x H1, Ext W W1 → Keeps W H H1 → Rel G W1 s1 H1 → VR G W1 H1 x d → ∃ a, x = .ref a ∧ (∃ ys, SqL X.K H1 a ys) ∧ Q (Itl X.K a) H1) ∨ (∀ W1 x H1, Ext W W1 → Keeps W H H1 → Rel G W1 s1 H1 → VR G W1 H1 x d → ∃ a, x = .ref a ∧ (∃ ys, SqT X.K H1 a ys) ∧ Q (Itt X.K a) H1) ∨ (∀ W1 x H1, Ext W W1 → Keeps W H H1 → Rel G W1 s1 H1 → VR G W1 H1 x d → ∃ z, x = .str z ∧ Q (Its z) H1) := by
          have all : ∀ W1 x H1, Ext W W1 → Keeps W H H1 → Rel G W1 s1 H1 → VR G W1 H1 x d → _ := fun W1 x H1 e1 k1 R1 v1 => isWalk_e (X := X) hK R1 v1 hi (Q := Q) fun J w => P W1 J H1 e1 k1 R1 w
          by_cases ht : ∃ ys, d = .tup ys
          · obtain ⟨ys, rfl⟩ := ht
            refine .inr (.inl fun W1 x H1 e1 k1 R1 v1 => ?_)
            cases hi
            cases v1 with
            | @tup a vs _ ht hvs =>
              exact ⟨a, rfl, ⟨vs, .inl (.inl ht)⟩, P W1 _ H1 e1 k1 R1 (walk_vrs hvs walk_tup (.inl (.inl ht)) fun W' H' e' k' => .inl (.inl (k'.tup _ _ ht)))⟩
          · by_cases hs : ∃ z, d = .str z
            · obtain ⟨z, rfl⟩ := hs
              refine .inr (.inr fun W1 x H1 e1 k1 R1 v1 => ?_)
              rcases all W1 x H1 e1 k1 R1 v1 with ⟨a, ea, _⟩ | ⟨a, ea, _⟩ | h
              · obtain ⟨ex, _⟩ := v1.str_; rw [ex] at ea; cases ea
              · obtain ⟨ex, _⟩ := v1.str_; rw [ex] at ea; cases ea
              · exact h
            · refine .inl fun W1 x H1 e1 k1 R1 v1 => ?_
              cases d with
              | lst ys =>
                cases hi
                cases v1 with
                | @lst a vs _ z hr hvs => exact ⟨a, rfl, ⟨vs, .inl hr⟩, P W1 _ H1 e1 k1 R1 (walk_vrs hvs walk_list (.inl hr) fun W' H' e' k' => .inl (k'.z _ _ z trivial hr))⟩
              | rg n =>
                simp only [items] at hi
                cases hc : s1.cs[n]? with
                | none => rw [hc] at hi; cases hi
                | some y =>
                  obtain ⟨l, c⟩ := y
                  cases c with
                  | lst ys =>
                    rw [hc] at hi
                    cases l with
                    | false => simp at hi
                    | true =>
                      simp only [if_true, Option.some.injEq, Prod.mk.injEq, and_true] at hi
                      subst hi
                      obtain ⟨a, rfl, ha⟩ := v1.rg_
                      obtain ⟨u, q1, _, z2⟩ := R1.cell n a _ ha hc
                      obtain ⟨o, z⟩ := z2 rfl
                      obtain ⟨vs, rfl, hvs⟩ := q1.lst_
                      exact ⟨a, rfl, ⟨vs, .inl (.inr ⟨o, z⟩)⟩, P W1 _ H1 e1 k1 R1 (walk_vrs hvs walk_list (.inl (.inr ⟨o, z⟩)) fun W' H' e' k' => .inl (.inr ⟨o, k'.frz _ _ _ z⟩))⟩
                  | _ => rw [hc] at hi; cases hi
              | tup ys => exact absurd ⟨ys, rfl⟩ ht
              | str z => exact absurd ⟨z, rfl⟩ hs
              | _ => simp [items] at hi
        rcases kd with kd | kd | kd
        · refine (pi_list he).run pins sh σ H Q I ⟨W, s, e, R, ER, ?_⟩
          rw [hr]
          exact kd
        · refine (pi_tup he).run pins sh σ H Q I ⟨W, s, e, R, ER, ?_⟩
          rw [hr]
          exact kd
        · refine (pi_str he).run pins sh σ H Q I ⟨W, s, e, R, ER, ?_⟩
          rw [hr]
          exact kd
theorem small62_ {i : Int} (h : small62 i = true) : -(2 ^ 62) ≤ i ∧ i < 2 ^ 62 := by simpa [small62] using h
theorem i_rng1 {m : DE} {tg a : Expr} {p pos : Pos} (hg : Gl X "range") (hm : X.mg "range" = none) (ha : PA X [a] (tA G Wx K [m])) (hs : starEach [a] X.env = [(false, eval a X.env)]) : PI X tg (.Call (.Name "range" p) [a] [] pos) (tI G Wx K .rng1 [m]) := by
  refine (pi_range1 hg hm ha hs).imp fun σ H Q ⟨W, s, e, R, ER, P⟩ => ⟨W, s, e, R, ER, ?_⟩
  cases hr : evEs K [m] e s with
  | bad => rw [hr] at P; exact P.elim
  | exc c s1 => rw [hr] at P; exact P
  | ok ds s1 =>
    rw [hr] at P
    intro W1 xs H1 e1 k1 R1 v1
    simp only [PostI] at P
    match ds, P with
    | [.int j], P =>
      obtain ⟨x, rfl, vx⟩ := vrs1 v1
      cases vx.int_
      simp only [items] at P
      cases hj : small62 j with
      | false => rw [hj] at P; exact P.elim
      | true =>
        rw [hj] at P
        simp only [if_true] at P
        obtain ⟨j1, j2⟩ := small62_ hj
        refine ⟨j, rfl, j1, j2, P W1 _ H1 e1 k1 R1 ⟨fun _ => True, _, by rw [List.length_map, List.length_range]; exact walk_range, trivial, fun _ _ _ _ => trivial, fun i H1 x H2 hi y => ?_⟩⟩
        obtain ⟨rfl, rfl⟩ := y
        rw [List.length_map, List.length_range] at hi
        exact ⟨rfl, fun W' _ _ => ⟨.int (i : Nat), by rw [List.getElem?_map, List.getElem?_range hi]; rfl, by show VR G W' _ (.int (0 + (i : Nat))) _; rw [Int.zero_add]; exact .int _⟩⟩
    | [], P => simp [items] at P
    | [.non], P => simp [items] at P
    | [.bl _], P => simp [items] at P
    | [.str _], P => simp [items] at P
    | [.tup _], P => simp [items] at P
    | [.lst _], P => simp [items] at P
    | [.dct _ _ _], P => simp [items] at P
    | [.ins _ _ _], P => simp [items] at P
    | [.rg _], P => simp [items] at P
    | [.exc _], P => simp [items] at P
    | [.scr _], P => simp [items] at P
    | _ :: _ :: _, P => simp [items] at P
theorem i_rng2 {m m2 : DE} {tg a b : Expr} {p pos : Pos} (hg : Gl X "range") (hm : X.mg "range" = none) (ha : PA X [a, b] (tA G Wx K [m, m2])) (hs : starEach [a, b] X.env = [(false, eval a X.env), (false, eval b X.env)]) (hs2 : starEach [b] X.env = [(false, eval b X.env)]) : PI X tg (.Call (.Name "range" p) [a, b] [] pos) (tI G Wx K .rng2 [m, m2]) := by
  refine (pi_range2 hg hm ha hs hs2).imp fun σ H Q ⟨W, s, e, R, ER, P⟩ => ⟨W, s, e, R, ER, ?_⟩
  cases hr : evEs K [m, m2] e s with
  | bad => rw [hr] at P; exact P.elim
  | exc c s1 => rw [hr] at P; exact P
  | ok ds s1 =>
    rw [hr] at P
    intro W1 xs H1 e1 k1 R1 v1
    simp only [PostI] at P
    by_cases hd : ∃ i j, ds = [.int i, .int j]
    · obtain ⟨i, j, rfl⟩ := hd
      obtain ⟨x, y, rfl, vx, vy⟩ := vrs2 v1
      cases vx.int_; cases vy.int_
      simp only [items] at P
      cases hj : (small62 i && small62 j) with
      | false => rw [hj] at P; exact P.elim
      | true =>
        rw [hj] at P
        simp only [if_true] at P
        rw [Bool.and_eq_true] at hj
        obtain ⟨i1, i2⟩ := small62_ hj.1
        obtain ⟨j1, j2⟩ := small62_ hj.2
        refine ⟨i, j, rfl, ⟨i1, i2, j1, j2⟩, P W1 _ H1 e1 k1 R1 ⟨fun _ => True, _, by rw [List.length_map, List.length_range]; exact walk_range, trivial, fun _ _ _ _ => trivial, fun n H1 x H2 hi y => ?_⟩⟩
        obtain ⟨rfl, rfl⟩ := y
        rw [List.length_map, List.length_range] at hi
        exact ⟨rfl, fun W' _ _ => ⟨.int (i + (n : Nat)), by rw [List.getElem?_map, List.getElem?_range hi]; rfl, .int _⟩⟩
    · exfalso
      have : items s1 .rng2 ds = none := by
        unfold items
        split <;> first | rfl | skip
        all_goals (first | (exfalso; apply hd; exact ⟨_, _, rfl⟩) | simp_all)
      rw [this] at P
      exact P
end
end MS

set_option Elab.async false
set_option linter.all false
set_option maxRecDepth 100000
set_option maxHeartbeats 400000
set_option autoImplicit false
/-! S10: dicts walked; locks; loops; comprehensions. -/
namespace MS
open PySem L2 M

section
variable {G : G0} {X : Cx} {Wx : WX} {K : Calls} {σ : L2.St} {H H' : Hp} {W W' : Wd} {s s' : S} {e : M.Env}
theorem kyD_v {k : Ky} (h : k.t = false ∧ kyOk k = true) : VR G W H (kV (keyK k)) (kyD k) := by
  cases k with
  | i n => exact .int n
  | s x => exact .str x h.2
  | p l => simp [Ky.t] at h
/-- a locked dict -/
theorem lockedK (R : Rel G W s H) {n : Nat} {a : Addr} (ha : W.φ[n]? = some a) {kvs : List (Ky × D)} (hc : s.cs[n]? = some ⟨true, .dct false kvs⟩) : ∃ o ks, H a = some (.frz o (.dK ks)) ∧ KR G W H ks kvs := by
  obtain ⟨u, q1, _, z2⟩ := R.cell n a _ ha hc
  obtain ⟨o, z⟩ := z2 rfl
  cases q1 with
  | dK q => exact ⟨o, _, z, q⟩
theorem items_lk {k : IK} (hk : k = .keys ∨ k = .vals) {ds : List D} {xs : List D} (h : items s k ds = some (xs, none)) : ∃ n kvs, ds = [.rg n] ∧ s.cs[n]? = some ⟨true, .dct false kvs⟩ ∧ xs = (if k = .keys then kvs.map (fun p => kyD p.1) else kvs.map (·.2)) := by
  match ds, h with
  | [.rg n], h =>
    rcases hk with rfl | rfl
    all_goals
      simp only [items] at h
      cases hc : s.cs[n]? with
      | none => rw [hc] at h; cases h
      | some y =>
        obtain ⟨l, c⟩ := y
        cases c with
        | dct t kvs =>
          cases t with
          | true => rw [hc] at h; cases h
          | false =>
            rw [hc] at h
            cases l with
            | false => simp at h
            | true =>
              simp only [if_true, Option.some.injEq, Prod.mk.injEq, and_true] at h
              subst h
              exact ⟨n, kvs, rfl, hc, by simp⟩
        | _ => rw [hc] at h; cases h
  | [], h => rcases hk with rfl | rfl <;> simp [items] at h
  | [.non], h => rcases hk with rfl | rfl <;> simp [items] at h
  | [.bl _], h => rcases hk with rfl | rfl <;> simp [items] at h
  | [.int _], h => rcases hk with rfl | rfl <;> simp [items] at h
  | [.str _], h => rcases hk with rfl | rfl <;> simp [items] at h
  | [.tup _], h => rcases hk with rfl | rfl <;> simp [items] at h
  | [.lst _], h => rcases hk with rfl | rfl <;> simp [items] at h
  | [.dct _ _ _], h => rcases hk with rfl | rfl <;> simp [items] at h
  | [.ins _ _ _], h => rcases hk with rfl | rfl <;> simp [items] at h
  | [.exc _], h => rcases hk with rfl | rfl <;> simp [items] at h
  | [.scr _], h => rcases hk with rfl | rfl <;> simp [items] at h
  | _ :: _ :: _, h => rcases hk with rfl | rfl <;> simp [items] at h
theorem kr_at {ks : List (Key × V)} {kvs : List (Ky × D)} (h : KR G W H ks kvs) {i : Nat} {k : Key} {v : V} (hx : ks[i]? = some (k, v)) : ∃ p, kvs[i]? = some p ∧ (p.1.t = false ∧ kyOk p.1 = true) ∧ k = keyK p.1 ∧ VR G W H v p.2 := by
  obtain ⟨h1, h2, h3⟩ := h
  have e1 : (ks.map (·.1))[i]? = some k := by rw [List.getElem?_map, hx]; rfl
  rw [h2, List.getElem?_map] at e1
  cases hp : kvs[i]? with
  | none => rw [hp] at e1; cases e1
  | some p =>
    rw [hp] at e1
    have e2 : (ks.map (·.2))[i]? = some v := by rw [List.getElem?_map, hx]; rfl
    obtain ⟨d, hd, hv⟩ := h3.get' e2
    rw [List.getElem?_map, hp] at hd
    cases hd
    exact ⟨p, rfl, h1 p (List.mem_of_getElem? hp), (Option.some.inj e1).symm, hv⟩
theorem isWalk_keys (R : Rel G W s H) {n : Nat} {v : V} {kvs : List (Ky × D)} (hv : VR G W H v (.rg n)) (hc : s.cs[n]? = some ⟨true, .dct false kvs⟩) : ∃ a o ks, v = .ref a ∧ H a = some (.frz o (.dK ks)) ∧ IsWalk G W H (Itk a o ks) (kvs.map fun p => kyD p.1) ∧ IsWalk G W H (Itd a o ks) (kvs.map (·.2)) := by
  obtain ⟨a, rfl, ha⟩ := hv.rg_
  obtain ⟨o, ks, z, q⟩ := lockedK R ha hc
  have hl : ks.length = kvs.length := GR.length (f := keyK) (P := PK0) q
  refine ⟨a, o, ks, rfl, z, ⟨_, _, by rw [List.length_map, ← hl]; exact walk_keys, z, fun W' H' e' k' => k'.frz _ _ _ z, fun i H1 x H2 hi y => ?_⟩, ⟨_, _, by rw [List.length_map, ← hl]; exact walk_values, z, fun W' H' e' k' => k'.frz _ _ _ z, fun i H1 x H2 hi y => ?_⟩⟩
  · obtain ⟨rfl, k, v, hx, rfl⟩ := y
    obtain ⟨p, hp, h1, rfl, h3⟩ := kr_at q hx
    exact ⟨rfl, fun W' e' k' => ⟨kyD p.1, by rw [List.getElem?_map, hp]; rfl, kyD_v h1⟩⟩
  · obtain ⟨rfl, k, hx⟩ := y
    obtain ⟨p, hp, h1, rfl, h3⟩ := kr_at q hx
    exact ⟨rfl, fun W' e' k' => ⟨p.2, by rw [List.getElem?_map, hp]; rfl, h3.mono e' k'.toKeep0⟩⟩
theorem post_one {m : DE} {k : IK} {env : M.Env} {Q : It → Hp → Prop} (P : PostI G Wx σ k W H (evEs K [m] env s) Q) {Q' : V → Hp → Prop} (g : ∀ d s1 W1 x H1 xs, Ext W W1 → Keeps W H H1 → Rel G W1 s1 H1 → VR G W1 H1 x d → items s1 k [d] = some (xs, none) → (∀ J, IsWalk G W1 H1 J xs → Q J H1) → Q' x H1) : Post G (VR G) W H (evE K m env s) Q' (wx G Wx σ) := by
  rw [evEs1] at P
  cases hr : evE K m env s with
  | bad => rw [hr] at P; exact P.elim
  | exc c s1 => rw [hr] at P; exact P
  | ok d s1 =>
    rw [hr] at P
    simp only [M.R.bind, PostI] at P
    intro W1 x H1 e1 k1 R1 v1
    cases hi : items s1 k [d] with
    | none => rw [hi] at P; exact P.elim
    | some p =>
      obtain ⟨xs, o⟩ := p
      cases o with
      | some n => rw [hi] at P; exact P.elim
      | none =>
        rw [hi] at P
        exact g d s1 W1 x H1 xs e1 k1 R1 v1 hi fun J w => P W1 J H1 e1 k1 R1 w
theorem i_keys {m : DE} {tg o : Expr} {apos cpos : Pos} (he : PE X o (tE G Wx K m)) (hb : attributeBase o "keys" X.env (eval o X.env) = eval o X.env) (hl : (apos.endLine == cpos.line) = true) : PI X tg (.Call (.Attribute o "keys" apos) [] [] cpos) (tI G Wx K .keys [m]) := by
  refine (pi_keysM he hb hl).imp fun σ H Q ⟨W, s, e, R, ER, P⟩ => ⟨W, s, e, R, ER, post_one P fun d s1 W1 x H1 xs e1 k1 R1 v1 hi q => ?_⟩
  obtain ⟨n, kvs, hd, hc, rfl⟩ := items_lk (.inl rfl) hi
  cases hd
  obtain ⟨a, o, ks, rfl, z, w1, w2⟩ := isWalk_keys R1 v1 hc
  exact ⟨a, o, ks, rfl, z, q _ w1⟩
theorem i_vals {m : DE} {tg o : Expr} {apos cpos : Pos} (he : PE X o (tE G Wx K m)) (hb : attributeBase o "values" X.env (eval o X.env) = eval o X.env) (hl : (apos.endLine == cpos.line) = true) : PI X tg (.Call (.Attribute o "values" apos) [] [] cpos) (tI G Wx K .vals [m]) := by
  refine (pi_values he hb hl).imp fun σ H Q ⟨W, s, e, R, ER, P⟩ => ⟨W, s, e, R, ER, post_one P fun d s1 W1 x H1 xs e1 k1 R1 v1 hi q => ?_⟩
  obtain ⟨n, kvs, hd, hc, rfl⟩ := items_lk (.inr rfl) hi
  cases hd
  obtain ⟨a, o, ks, rfl, z, w1, w2⟩ := isWalk_keys R1 v1 hc
  exact ⟨a, o, ks, rfl, z, q _ w2⟩
/-! ### targets -/
def tgG (K : PySem.W.Frag) (t : Tg) : TG := if t.tup then gTup K t.is.length (t.is.foldr (fun i u => gCons (gName i) u) gNil) else match t.is with
  | [i] => gName i
  | _ => fun _ _ _ _ => False
theorem setAll_ok : ∀ {is : List Nat} {ds : List D} {e e' : M.Env} {σ : L2.St} {vs : List V}, setAll is ds e = some e' → VRs G W H vs ds → EnvR G W H σ e → ∀ {Q : L2.St → Hp → Prop}, (∀ σ', EnvR G W H σ' e' → Q σ' H) → is.foldr (fun i u => gCons (gName i) u) gNil vs σ H Q
  | [], [], e, e', σ, vs, h, hv, hE, Q, q => by cases h; cases hv; exact ⟨rfl, q σ hE⟩
  | [], _ :: _, _, _, _, _, h, _, _, _, _ => by simp [setAll] at h
  | _ :: _, [], _, _, _, _, h, _, _, _, _ => by simp [setAll] at h
  | i :: is, d :: ds, e, e', σ, vs, h, hv, hE, Q, q => by
    cases hv with
    | cons hv ht =>
      simp only [setAll] at h
      split at h
      · exact ⟨_, _, rfl, setAll_ok h ht (hE.put hv) q⟩
      · cases h
theorem setAll_len : ∀ {is : List Nat} {ds : List D} {e e' : M.Env}, setAll is ds e = some e' → ds.length = is.length
  | [], [], _, _, _ => rfl
  | [], _ :: _, _, _, h => by simp [setAll] at h
  | _ :: _, [], _, _, h => by simp [setAll] at h
  | i :: is, d :: ds, e, e', h => by
    simp only [setAll] at h
    split at h
    · exact congrArg (· + 1) (setAll_len h)
    · cases h
theorem bindT_ok {t : Tg} {d : D} {e e' : M.Env} {v : V} (h : bindT s t d e = some e') (hv : VR G W H v d) (hE : EnvR G W H σ e) {Q : L2.St → Hp → Prop} (q : ∀ σ', EnvR G W H σ' e' → Q σ' H) : tgG G.K t v σ H Q := by
  unfold bindT at h
  unfold tgG
  cases ht : t.tup with
  | true =>
    rw [ht] at h
    simp only [if_true] at h ⊢
    cases d with
    | tup ds =>
      cases hv with
      | @tup a vs _ hq hvs =>
        exact ⟨a, vs, rfl, .inl (.inl hq), by rw [hvs.length]; exact setAll_len h, setAll_ok h hvs hE q⟩
    | _ => simp at h
  | false =>
    rw [ht] at h
    simp only [if_neg Bool.false_ne_true] at h ⊢
    match hi : t.is, h with
    | [i], h =>
      simp only at h ⊢
      split at h
      · cases h; exact q _ (hE.put hv)
      · cases h
    | [], h => simp at h
    | _ :: _ :: _, h => simp at h
/-! ### a loop -/
def goL (K : Calls) (tg : Tg) (k : IK) (es : List DE) (body : List DS) (e : M.Env) : S → F := fun s => (evEs K es e s).st e fun ds s => match items s k ds with
  | some (xs, none) => forL (fun x e s => match bindT s tg x e with
    | some e => evSs K body e s
    | none => .bad) xs e s
  | _ => .bad
theorem evS_loop {lk : Bool} {tg : Tg} {k : IK} {es : List DE} {body : List DS} : evS K (.loop lk tg k es body) e s = if lk then lockF (evEs K es e s) s (goL K tg k es body e) else goL K tg k es body e s := by
  simp only [evS]; rfl
def tFL (G : G0) (Wx : WX) (K : Calls) (tg : Tg) (k : IK) (es : List DE) (body : List DS) : TS := fun D σ H => ∃ W s e, Rel G W s H ∧ EnvR G W H σ e ∧ PostF G Wx W H (goL K tg k es body e s) D
theorem s_for {tg : Tg} {k : IK} {es : List DE} {body : List DS} {et ei : Expr} {eb : List Stmt} {pos : Pos} (hK : X.K = G.K) (hp : PassesOwn (model X.prog X.w) X.A X.env X.xe) (hc : X.calm = true) (hi : PI X et ei (tI G Wx K k es)) (hg : PG X et (tgG G.K tg)) (hb : PSs X eb (tSs G Wx K body))
    (hs : ∀ x, foldedSetIterable ei X.env x = pure x) : PS X (.For et ei eb [] pos) (tFL G Wx K tg k es body) := by
  refine (ps_for hp hc hi hg hb hs).imp fun D σ H ⟨W, s, e, R, ER, P⟩ => ⟨W, s, e, R, ER, ?_⟩
  unfold goL at P
  cases hr : evEs K es e s with
  | bad => rw [hr] at P; exact P.elim
  | exc c s1 => rw [hr] at P; exact fun W' H' e' k' r' => P W' σ H' e' k' r' (ER.mono e' k'.toKeep0)
  | ok ds s1 =>
    rw [hr] at P
    simp only [M.R.st] at P
    unfold PostI
    cases hit : items s1 k ds with
    | none => rw [hit] at P; exact P.elim
    | some p =>
      obtain ⟨xs, o⟩ := p
      cases o with
      | some n => rw [hit] at P; exact P.elim
      | none =>
        rw [hit] at P
        simp only [hit]
        intro W1 J H1 e1 k1 R1 wk
        obtain ⟨Φ, Y, wk, hΦ, kΦ, yΦ⟩ := wk
        simp only at P
        refine for_it wk (fun i σ2 H2 => ∃ W2 s2 e2, Ext W1 W2 ∧ Keeps W1 H1 H2 ∧ Rel G W2 s2 H2 ∧ EnvR G W2 H2 σ2 e2 ∧ PostF G Wx W2 H2 (forL (fun x e s => match bindT s tg x e with
            | some e => evSs K body e s
            | none => .bad) (xs.drop i) e2 s2) D) ⟨W1, s1, e, Ext.refl _, Keeps.refl _ _, R1, ER.mono e1 k1.toKeep0, P.rebase e1 k1⟩ (fun i σ2 H2 _ ⟨W2, s2, e2, x2, k2, _⟩ => kΦ W2 H2 x2 k2) ?_ ?_
        · rintro i x σ2 H2 H3 hi ⟨W2, s2, e2, x2, k2, R2, ER2, P2⟩ y
          obtain ⟨rfl, hd⟩ := yΦ i H2 x _ hi y
          obtain ⟨d, hd1, hd2⟩ := hd W2 x2 k2
          have hdrop : xs.drop i = d :: xs.drop (i + 1) := by
            have hlt : i < xs.length := hi
            rw [List.drop_eq_getElem_cons hlt]
            have := (List.getElem?_eq_some_iff.mp hd1).2
            rw [this]
          rw [hdrop] at P2
          simp only [forL] at P2
          cases hbt : bindT s2 tg d e2 with
          | none => rw [hbt] at P2; exact P2.elim
          | some e3 =>
            rw [hbt] at P2
            simp only at P2
            refine bindT_ok hbt hd2 ER2 fun σ3 ER3 => ⟨W2, s2, e3, R2, ER3, ?_⟩
            cases hbody : evSs K body e3 s2 with
            | bad => rw [hbody] at P2; exact P2.elim
            | exc c e4 s4 => rw [hbody] at P2; exact P2
            | rt d4 s4 => rw [hbody] at P2; exact P2
            | nx e4 s4 =>
              rw [hbody] at P2
              intro W4 σ4 H4 x4 k4 R4 ER4
              exact ⟨W4, s4, e4, x2.trans x4, k2.trans x2 k4, R4, ER4, PostF.rebase P2 x4 k4⟩
        · rintro σ2 H2 ⟨W2, s2, e2, x2, k2, R2, ER2, P2⟩
          rw [List.drop_length] at P2
          simp only [forL] at P2
          exact P2.nxt R2 ER2
end
end MS

set_option Elab.async false
set_option linter.all false
set_option maxRecDepth 100000
set_option maxHeartbeats 400000
set_option autoImplicit false
/-! S11: locks; comprehensions. -/
namespace MS
open PySem L2 M

section
variable {G : G0} {X : Cx} {Wx : WX} {K : Calls} {σ : L2.St} {H H' : Hp} {W W' : Wd} {s s' : S} {e : M.Env}
theorem lockAt_cs {n : Nat} {x : CS} (h : s.cs[n]? = some x) (b : Bool) : lockAt s n b = { s with cs := s.cs.set n ⟨b, x.c⟩ } := by
  unfold lockAt
  rw [h]
/-- locked -/
theorem Rel.lock (r : Rel G W s H) {n : Nat} {a : Addr} {c : Cell} {u : HO} (ha : W.φ[n]? = some a) (hc : s.cs[n]? = some ⟨false, c⟩) (hu : H a = some u) (hr : HoR G W H u c) (od : Obj) :
    Keeps W H (upd H a (.frz od u)) ∧ Rel G W (lockAt s n true) (upd H a (.frz od u)) := by
  obtain ⟨m1, m2⟩ := hr.mut
  have nz : ∀ x, W.Z x → x ≠ a := fun x hz e => r.sep a (List.mem_of_getElem? ha) (e ▸ hz)
  have np : ∀ x, W.P x → x ≠ a := fun x hz e => r.sepP a (List.mem_of_getElem? ha) (e ▸ hz)
  have kk : ∀ W' : Wd, W'.Z = W.Z → W'.P = W.P → Keeps W' H (upd H a (.frz od u)) := fun W' e e2 => by
    have zz : ∀ x, W'.Z x → (upd H a (.frz od u)) x = H x := fun x hz => upd_ne (nz x (e ▸ hz))
    exact { tup := fun x xs h => by rw [upd_ne (fun e => by subst e; rw [hu] at h; cases h; exact m1 _ rfl)]; exact h
            frz := fun x o w h => by rw [upd_ne (fun e => by subst e; rw [hu] at h; cases h; exact m2 _ _ rfl)]; exact h
            z := fun x w hz _ h => by unfold Rd at *; rw [zz x hz]; exact h
            zi := fun x _ _ _ hz h => by rw [zz x hz]; exact h
            ze := fun x _ hz h => by rw [zz x hz]; exact h
            pin := fun x w hz h => by rw [upd_ne (np x (e2 ▸ hz))]; exact h }
  have hk : n < s.cs.length := (List.getElem?_eq_some_iff.mp hc).1
  rw [lockAt_cs hc]
  have other : ∀ {m : Nat} {x : Addr}, W.φ[m]? = some x → m ≠ n → x ≠ a := fun {m x} h1 e e2 => by
    subst e2
    have l1 := (List.getElem?_eq_some_iff.mp h1).1
    have l2 := (List.getElem?_eq_some_iff.mp ha).1
    exact e (List.getElem_inj (h₀ := l1) (h₁ := l2) r.nd |>.mp ((List.getElem?_eq_some_iff.mp h1).2.trans (List.getElem?_eq_some_iff.mp ha).2.symm))
  refine ⟨kk W rfl rfl, ⟨by show W.φ.length = (s.cs.set n _).length; rw [List.length_set]; exact r.len, r.nd, fun m x y h1 h2 => ?_, fun b hb m x y hnb h1 h2 => ?_, fun b hb => by show b ≤ (s.cs.set n _).length; rw [List.length_set]; exact r.bsz b hb, r.sep, fun x hz h => ?_, r.sepP, fun x hz h => ?_, r.sepZ⟩⟩
  · have h2' : (s.cs.set n ⟨true, c⟩)[m]? = some y := h2
    by_cases e : m = n
    · subst e
      rw [ha] at h1
      cases h1
      rw [List.getElem?_set_self hk] at h2'
      cases h2'
      exact ⟨u, hr.mono (Ext.refl W) (kk W rfl rfl).toKeep0, (fun z => by cases z), fun _ => ⟨od, upd_same⟩⟩
    · rw [List.getElem?_set_ne (Ne.symm e)] at h2'
      obtain ⟨w, q, z1, z2⟩ := r.cell m x y h1 h2'
      have ne := other h1 e
      exact ⟨w, q.mono (Ext.refl W) (kk W rfl rfl).toKeep0, fun z => by rw [upd_ne ne]; exact z1 z, fun z => by rw [upd_ne ne]; exact z2 z⟩
  · have h2' : (s.cs.set n ⟨true, c⟩)[m]? = some y := h2
    by_cases e : m = n
    · subst e
      rw [ha] at h1
      cases h1
      rw [List.getElem?_set_self hk] at h2'
      cases h2'
      obtain ⟨u2, q2, z2, _⟩ := r.low b hb m a _ hnb ha hc
      have := hu.symm.trans (z2 rfl)
      cases this
      exact ⟨u, q2.mono (Ext.refl _) (kk (W.low b) rfl rfl).toKeep0, (fun z => by cases z), fun _ => ⟨od, upd_same⟩⟩
    · rw [List.getElem?_set_ne (Ne.symm e)] at h2'
      obtain ⟨w, q, z1, z2⟩ := r.low b hb m x y hnb h1 h2'
      have ne := other h1 e
      exact ⟨w, q.mono (Ext.refl _) (kk (W.low b) rfl rfl).toKeep0, fun z => by rw [upd_ne ne]; exact z1 z, fun z => by rw [upd_ne ne]; exact z2 z⟩
  · rw [upd_ne (nz x hz)] at h
    exact r.zok x hz h
  · rw [upd_ne (np x hz)] at h
    exact r.pok x hz h
/-- unlocked again -/
theorem Rel.unlock (r : Rel G W s H) {n : Nat} {a : Addr} {u : HO} {od : Obj} (ha : W.φ[n]? = some a) (hu : H a = some (.frz od u)) :
    Keep0 W H (upd H a u) ∧ Rel G W (lockAt s n false) (upd H a u) := by
  have nz : ∀ x, W.Z x → x ≠ a := fun x hz e => r.sep a (List.mem_of_getElem? ha) (e ▸ hz)
  have np : ∀ x, W.P x → x ≠ a := fun x hz e => r.sepP a (List.mem_of_getElem? ha) (e ▸ hz)
  have kk : ∀ W' : Wd, W'.Z = W.Z → Keep0 W' H (upd H a u) := fun W' e => by
    have zz : ∀ x, W'.Z x → (upd H a u) x = H x := fun x hz => upd_ne (nz x (e ▸ hz))
    exact { tup := fun x xs h => by rw [upd_ne (fun e => by subst e; rw [hu] at h; cases h)]; exact h
            z := fun x w hz _ h => by unfold Rd at *; rw [zz x hz]; exact h
            zi := fun x _ _ _ hz h => by rw [zz x hz]; exact h
            ze := fun x _ hz h => by rw [zz x hz]; exact h }
  obtain ⟨x0, hc, c0⟩ := r.there ha
  obtain ⟨l0, c⟩ := x0
  have hk : n < s.cs.length := (List.getElem?_eq_some_iff.mp hc).1
  rw [lockAt_cs hc]
  have other : ∀ {m : Nat} {x : Addr}, W.φ[m]? = some x → m ≠ n → x ≠ a := fun {m x} h1 e e2 => by
    subst e2
    have l1 := (List.getElem?_eq_some_iff.mp h1).1
    have l2 := (List.getElem?_eq_some_iff.mp ha).1
    exact e (List.getElem_inj (h₀ := l1) (h₁ := l2) r.nd |>.mp ((List.getElem?_eq_some_iff.mp h1).2.trans (List.getElem?_eq_some_iff.mp ha).2.symm))
  have same : ∀ {W' : Wd} {q : HO}, HoR G W' H q c → (l0 = false → H a = some q) → (l0 = true → ∃ o, H a = some (.frz o q)) → q = u := fun {W' q} hq h1 h2 => by
    cases l0 with
    | false =>
      have := (h1 rfl).symm.trans hu
      cases this
      exact absurd rfl (hq.mut.2 _ _)
    | true =>
      obtain ⟨o, h3⟩ := h2 rfl
      have := h3.symm.trans hu
      cases this
      rfl
  refine ⟨kk W rfl, ⟨by show W.φ.length = (s.cs.set n _).length; rw [List.length_set]; exact r.len, r.nd, fun m x y h1 h2 => ?_, fun b hb m x y hnb h1 h2 => ?_, fun b hb => by show b ≤ (s.cs.set n _).length; rw [List.length_set]; exact r.bsz b hb, r.sep, fun x hz h => ?_, r.sepP, fun x hz h => ?_, r.sepZ⟩⟩
  · have h2' : (s.cs.set n ⟨false, c⟩)[m]? = some y := h2
    by_cases e : m = n
    · subst e
      rw [ha] at h1
      cases h1
      rw [List.getElem?_set_self hk] at h2'
      cases h2'
      obtain ⟨q, hq, z1, z2⟩ := c0
      have eq := same hq z1 z2
      subst eq
      exact ⟨q, hq.mono (Ext.refl W) (kk W rfl), fun _ => upd_same, fun z => by cases z⟩
    · rw [List.getElem?_set_ne (Ne.symm e)] at h2'
      obtain ⟨w, q, z1, z2⟩ := r.cell m x y h1 h2'
      have ne := other h1 e
      exact ⟨w, q.mono (Ext.refl W) (kk W rfl), fun z => by rw [upd_ne ne]; exact z1 z, fun z => by rw [upd_ne ne]; exact z2 z⟩
  · have h2' : (s.cs.set n ⟨false, c⟩)[m]? = some y := h2
    by_cases e : m = n
    · subst e
      rw [ha] at h1
      cases h1
      rw [List.getElem?_set_self hk] at h2'
      cases h2'
      obtain ⟨q, hq, z1, z2⟩ := r.low b hb m a _ hnb ha hc
      have eq := same hq z1 z2
      subst eq
      exact ⟨q, hq.mono (Ext.refl _) (kk (W.low b) rfl), fun _ => upd_same, fun z => by cases z⟩
    · rw [List.getElem?_set_ne (Ne.symm e)] at h2'
      obtain ⟨w, q, z1, z2⟩ := r.low b hb m x y hnb h1 h2'
      have ne := other h1 e
      exact ⟨w, q.mono (Ext.refl _) (kk (W.low b) rfl), fun z => by rw [upd_ne ne]; exact z1 z, fun z => by rw [upd_ne ne]; exact z2 z⟩
  · rw [upd_ne (nz x hz)] at h
    exact r.zok x hz h
  · rw [upd_ne (np x hz)] at h
    exact r.pok x hz h
/-- locked and unlocked: what stood stands -/
theorem Keeps.around {a : Addr} {u : HO} {od : Obj} (hu : H a = some u) (hl : canLock u) (nz : ¬ W.Z a) (np : ¬ W.P a) (k : Keeps W (upd H a (.frz od u)) H') : Keeps W H (upd H' a u) := by
  have ne : ∀ {x : Addr} {w : HO}, x ≠ a → H x = some w → (upd H a (.frz od u)) x = some w := fun hx h => by rw [upd_ne hx]; exact h
  refine ⟨⟨fun x xs h => ?_, fun x w hz c h => ?_, fun x _ _ _ hz h => ?_, fun x _ hz h => ?_⟩, fun x o w h => ?_, fun x w hz h => ?_⟩
  · have hx : x ≠ a := fun e => by subst e; rw [hu] at h; cases h; exact hl
    rw [upd_ne hx]; exact k.tup x xs (ne hx h)
  · have hx : x ≠ a := fun e => nz (e ▸ hz)
    have h' : Rd (upd H a (.frz od u)) x w := by unfold Rd at *; rw [upd_ne hx]; exact h
    have := k.z x w hz c h'
    unfold Rd at *; rw [upd_ne hx]; exact this
  · have hx : x ≠ a := fun e => nz (e ▸ hz)
    rw [upd_ne hx]; exact k.zi x _ _ _ hz (ne hx h)
  · have hx : x ≠ a := fun e => nz (e ▸ hz)
    rw [upd_ne hx]; exact k.ze x _ hz (ne hx h)
  · have hx : x ≠ a := fun e => by subst e; rw [hu] at h; cases h; exact hl
    rw [upd_ne hx]; exact k.frz x o w (ne hx h)
  · have hx : x ≠ a := fun e => np (e ▸ hz)
    rw [upd_ne hx]; exact k.pin x w hz (ne hx h)
theorem lockCell_some {r : R (List D)} {n : Nat} (h : lockCell s r = some n) : ∃ c, s.cs[n]? = some ⟨false, c⟩ ∧ ((∃ xs, c = .lst xs) ∨ ∃ t kvs, c = .dct t kvs) := by
  unfold lockCell at h
  split at h
  · rename_i m _
    cases hc : s.cs[m]? with
    | none => rw [hc] at h; cases h
    | some x =>
      obtain ⟨l, c⟩ := x
      cases l with
      | true => rw [hc] at h; cases h
      | false =>
        cases c with
        | lst xs => rw [hc] at h; cases h; exact ⟨_, hc, .inl ⟨xs, rfl⟩⟩
        | dct t kvs => rw [hc] at h; cases h; exact ⟨_, hc, .inr ⟨t, kvs, rfl⟩⟩
        | ins _ _ => rw [hc] at h; cases h
  · cases h
theorem canLock_of {u : HO} {c : Cell} (h : HoR G W H u c) (hc : (∃ xs, c = .lst xs) ∨ ∃ t kvs, c = .dct t kvs) : canLock u ∧ Mut (some u) := by
  cases h with
  | lst _ => exact ⟨trivial, trivial⟩
  | dK _ => exact ⟨trivial, trivial⟩
  | dT _ => exact ⟨trivial, trivial⟩
  | ins _ => rcases hc with ⟨_, h⟩ | ⟨_, _, h⟩ <;> cases h
/-- a locking loop -/
theorem s_lock {tg : Tg} {k : IK} {es : List DE} {body : List DS} {st : Stmt} (h : PS X st (tFL G Wx K tg k es body)) :
    PS X st (fun D σ H => ∃ W s e, Rel G W s H ∧ EnvR G W H σ e ∧ PostF G Wx W H (lockF (evEs K es e s) s (goL K tg k es body e)) D) := by
  refine (ps_lock h).imp fun D σ H ⟨W, s, e, R, ER, P⟩ => ?_
  unfold lockF at P
  cases hn : lockCell s (evEs K es e s) with
  | none => rw [hn] at P; exact P.elim
  | some n =>
    rw [hn] at P
    simp only at P
    obtain ⟨c, hc, hcl⟩ := lockCell_some hn
    have hlt : n < W.φ.length := by rw [R.len]; exact (List.getElem?_eq_some_iff.mp hc).1
    have ha : W.φ[n]? = some W.φ[n] := List.getElem?_eq_getElem hlt
    generalize W.φ[n] = a at ha
    obtain ⟨u, hu, hr, _⟩ := R.cellU ha hc
    obtain ⟨cl, mu⟩ := canLock_of hr hcl
    refine ⟨a, u, hu, mu, fun od => ?_⟩
    obtain ⟨k1, R1⟩ := R.lock ha hc hu hr od
    have nz : ¬ W.Z a := fun hz => R.sep a (List.mem_of_getElem? ha) hz
    have np : ¬ W.P a := fun hz => R.sepP a (List.mem_of_getElem? ha) hz
    refine ⟨W, lockAt s n true, e, R1, ER.mono (Ext.refl W) k1.toKeep0, ?_⟩
    cases hg : goL K tg k es body e (lockAt s n true) with
    | bad => rw [hg] at P; exact P.elim
    | exc c' e' s' =>
      rw [hg] at P
      exact fun W' σ' H' x' k' r' er' => P W' σ' H' x' (k1.trans (Ext.refl W) k') r' er'
    | nx e' s' =>
      rw [hg] at P
      intro W' σ' H' x' k' r' er'
      have hf : H' a = some (.frz od u) := k'.frz a od u upd_same
      obtain ⟨k2, r2⟩ := r'.unlock (x'.at ha) hf
      exact ⟨hf, P W' σ' (upd H' a u) x' (Keeps.around hu cl nz np k') r2 (er'.mono (Ext.refl _) k2)⟩
    | rt d s' =>
      rw [hg] at P
      intro W' v H' x' k' r' vr'
      have hf : H' a = some (.frz od u) := k'.frz a od u upd_same
      obtain ⟨k2, r2⟩ := r'.unlock (x'.at ha) hf
      exact ⟨hf, P W' v (upd H' a u) x' (Keeps.around hu cl nz np k') r2 (vr'.mono (Ext.refl _) k2)⟩
end
end MS

set_option Elab.async false
set_option linter.all false
set_option maxRecDepth 100000
set_option maxHeartbeats 400000
set_option autoImplicit false
/-! S12: comprehensions. -/
namespace MS
open PySem L2 M

abbrev W0 : WX := fun _ _ _ _ => False
section
variable {G : G0} {X : Cx} {Wx : WX} {K : Calls} {σ : L2.St} {H H' : Hp} {W W' : Wd} {s s' : S} {e : M.Env}
theorem wipe_at {σ : L2.St} {j : Nat} : ∀ {vs : List Nat}, (L2.wipe σ vs)[j]? = if j ∈ vs then (if j < σ.length then some none else none) else σ[j]?
  | [] => by simp [L2.wipe]
  | v :: vs => by
    unfold L2.wipe
    by_cases hv : v = j
    · subst hv
      by_cases hl : v < σ.length
      · rw [List.getElem?_set_self (by rw [wipe_length]; exact hl)]; simp [hl]
      · rw [List.getElem?_eq_none (by rw [List.length_set, wipe_length]; omega)]; simp [hl]
    · rw [List.getElem?_set_ne hv, wipe_at]
      have : (j ∈ v :: vs) ↔ j ∈ vs := by simp [Ne.symm hv]
      simp only [this]
/-- the slots of is alone may differ -/
def SameBut (is : List Nat) (σ σ' : L2.St) : Prop := σ'.length = σ.length ∧ ∀ j, j ∉ is → σ'[j]? = σ[j]?
theorem wipe_same {is vs : List Nat} (hs : ∀ i ∈ is, i ∈ vs) {σ σ' : L2.St} (h : SameBut is σ σ') : L2.wipe σ' vs = L2.wipe σ vs := by
  apply List.ext_getElem?
  intro j
  rw [wipe_at, wipe_at, h.1]
  split
  · rfl
  · rename_i hj
    exact h.2 j fun hi => hj (hs j hi)
theorem wipe_wipe (σ : L2.St) (vs : List Nat) : L2.wipe (L2.wipe σ vs) vs = L2.wipe σ vs := by
  apply List.ext_getElem?
  intro j
  rw [wipe_at, wipe_at, wipe_length]
  split <;> rfl
theorem setAll_same : ∀ {is : List Nat} {ds : List D} {e e' : M.Env} {σ : L2.St} {vs : List V}, setAll is ds e = some e' → VRs G W H vs ds → EnvR G W H σ e → ∀ {Q : L2.St → Hp → Prop}, (∀ σ', SameBut is σ σ' → EnvR G W H σ' e' → Q σ' H) → is.foldr (fun i u => gCons (gName i) u) gNil vs σ H Q
  | [], [], e, e', σ, vs, h, hv, hE, Q, q => by cases h; cases hv; exact ⟨rfl, q σ ⟨rfl, fun _ _ => rfl⟩ hE⟩
  | [], _ :: _, _, _, _, _, h, _, _, _, _ => by simp [setAll] at h
  | _ :: _, [], _, _, _, _, h, _, _, _, _ => by simp [setAll] at h
  | i :: is, d :: ds, e, e', σ, vs, h, hv, hE, Q, q => by
    cases hv with
    | cons hv ht =>
      simp only [setAll] at h
      split at h
      · refine ⟨_, _, rfl, setAll_same h ht (hE.put hv) fun σ' hs er => q σ' ⟨by rw [hs.1, List.length_set], fun j hj => ?_⟩ er⟩
        rw [hs.2 j fun hi => hj (List.mem_cons_of_mem _ hi), List.getElem?_set_ne fun hi => hj (by rw [← hi]; exact List.mem_cons_self)]
      · cases h
theorem bindT_same {t : Tg} {d : D} {e e' : M.Env} {v : V} (h : bindT s t d e = some e') (hv : VR G W H v d) (hE : EnvR G W H σ e) {Q : L2.St → Hp → Prop} (q : ∀ σ', SameBut t.is σ σ' → EnvR G W H σ' e' → Q σ' H) : tgG G.K t v σ H Q := by
  unfold bindT at h
  unfold tgG
  cases ht : t.tup with
  | true =>
    rw [ht] at h
    simp only [if_true] at h ⊢
    cases d with
    | tup ds =>
      cases hv with
      | @tup a vs _ hq hvs =>
        exact ⟨a, vs, rfl, .inl (.inl hq), by rw [hvs.length]; exact setAll_len h, setAll_same h hvs hE q⟩
    | _ => simp at h
  | false =>
    rw [ht] at h
    simp only [if_neg Bool.false_ne_true] at h ⊢
    match hi : t.is, h with
    | [i], h =>
      simp only at h ⊢
      split at h
      · cases h
        exact q _ ⟨by rw [List.length_set], fun j hj => by rw [hi] at hj; exact List.getElem?_set_ne fun e => hj (by rw [← e]; exact List.mem_cons_self)⟩ (hE.put hv)
      · cases h
    | [], h => simp at h
    | _ :: _ :: _, h => simp at h
/-- a cell at an object that stands already -/
theorem Rel.addCell (r : Rel G W s H) {p : Addr} {o : HO} {c : Cell} (ho : H p = some o) (n1 : p ∉ W.φ) (n2 : ¬ W.Z p) (n3 : ¬ W.P p) (h : HoR G W H o c) : Rel G (W.addC p) (newCell s c) H ∧ VR G (W.addC p) H (.ref p) (.rg s.cs.length) := by
  have e : Ext W (W.addC p) := Ext.addC W p
  refine ⟨?_, .rg (by show (W.φ ++ [p])[s.cs.length]? = some p; rw [← r.len]; simp)⟩
  refine ⟨?_, ?_, fun n a x h1 h2 => ?_, fun b hb n a x hn h1 h2 => ?_, fun b hb => ?_, fun a ha => ?_, fun a hz => r.zok a hz, fun a ha => ?_, fun a hz => r.pok a hz, r.sepZ⟩
  · show (W.φ ++ [p]).length = (s.cs ++ [_]).length
    simp [r.len]
  · show (W.φ ++ [p]).Nodup
    rw [List.nodup_append]
    refine ⟨r.nd, by simp, fun a ha b hb => ?_⟩
    simp at hb
    subst hb
    rintro rfl
    exact n1 ha
  · have h1' : (W.φ ++ [p])[n]? = some a := h1
    have h2' : (s.cs ++ [⟨false, c⟩])[n]? = some x := h2
    by_cases hn : n < W.φ.length
    · rw [List.getElem?_append_left hn] at h1'
      rw [List.getElem?_append_left (by rw [← r.len]; exact hn)] at h2'
      obtain ⟨u, q, z⟩ := r.cell n a x h1' h2'
      exact ⟨u, HoR.mono e (Keep0.refl W _) q, z⟩
    · have hl : n < (W.φ ++ [p]).length := (List.getElem?_eq_some_iff.mp h1').1
      have en : n = W.φ.length := by simp at hl; omega
      subst en
      rw [List.getElem?_append_right (Nat.le_refl _)] at h1'
      rw [r.len, List.getElem?_append_right (Nat.le_refl _)] at h2'
      simp at h1' h2'
      subst h1'; subst h2'
      exact ⟨o, h.mono e (Keep0.refl W _), fun _ => ho, fun z => by cases z⟩
  · have hbl : b ≤ s.cs.length := r.bsz b hb
    have h1' : (W.φ ++ [p])[n]? = some a := h1
    have h2' : (s.cs ++ [⟨false, c⟩])[n]? = some x := h2
    rw [List.getElem?_append_left (by rw [r.len]; omega)] at h1'
    rw [List.getElem?_append_left (by omega)] at h2'
    obtain ⟨u, q, z⟩ := r.low b hb n a x hn h1' h2'
    exact ⟨u, q.mono (Ext.low e (by rw [r.len]; exact hbl)) (Keep0.refl _ _), z⟩
  · have := r.bsz b hb
    show b ≤ (s.cs ++ [_]).length
    simp; omega
  · have ha' : a ∈ W.φ ++ [p] := ha
    rw [List.mem_append] at ha'
    rcases ha' with ha | ha
    · exact r.sep a ha
    · simp at ha; subst ha; exact n2
  · have ha' : a ∈ W.φ ++ [p] := ha
    rw [List.mem_append] at ha'
    rcases ha' with ha | ha
    · exact r.sepP a ha
    · simp at ha; subst ha; exact n3
/-- an object of nobody's is written -/
theorem Keeps.other {p : Addr} {xs : List V} {o : HO} (hp : H p = some (.lst xs)) (n2 : ¬ W.Z p) (n3 : ¬ W.P p) : Keeps W H (upd H p o) := by
  refine ⟨⟨fun x ys h => ?_, fun x w hz c h => ?_, fun x _ _ _ hz h => ?_, fun x _ hz h => ?_⟩, fun x q w h => ?_, fun x w hz h => ?_⟩
  · rw [upd_ne (fun e => by subst e; rw [hp] at h; cases h)]; exact h
  · unfold Rd at *; rw [upd_ne (fun e => by subst e; exact n2 hz)]; exact h
  · rw [upd_ne (fun e => by subst e; exact n2 hz)]; exact h
  · rw [upd_ne (fun e => by subst e; exact n2 hz)]; exact h
  · rw [upd_ne (fun e => by subst e; rw [hp] at h; cases h)]; exact h
  · rw [upd_ne (fun e => by subst e; exact n3 hz)]; exact h
theorem Rel.other (r : Rel G W s H) {p : Addr} {xs : List V} {o : HO} (hp : H p = some (.lst xs)) (n1 : p ∉ W.φ) (n2 : ¬ W.Z p) (n3 : ¬ W.P p) : Rel G W s (upd H p o) := by
  have kk : ∀ b, Keep0 (W.low b) H (upd H p o) := fun b => (Keeps.other (W := W) hp n2 n3).toKeep0.low
  have k0 : Keep0 W H (upd H p o) := (Keeps.other (W := W) hp n2 n3).toKeep0
  have ne : ∀ {n : Nat} {a : Addr}, W.φ[n]? = some a → a ≠ p := fun h e => n1 (e ▸ List.mem_of_getElem? h)
  refine ⟨r.len, r.nd, fun n a x h1 h2 => ?_, fun b hb n a x hn h1 h2 => ?_, r.bsz, r.sep, fun a hz h => ?_, r.sepP, fun a hz h => ?_, r.sepZ⟩
  · obtain ⟨u, q, c1, c2⟩ := r.cell n a x h1 h2
    exact ⟨u, q.mono (Ext.refl W) k0, fun e => by rw [upd_ne (ne h1)]; exact c1 e, fun e => let ⟨o, z⟩ := c2 e; ⟨o, by rw [upd_ne (ne h1)]; exact z⟩⟩
  · obtain ⟨u, q, c1, c2⟩ := r.low b hb n a x hn h1 h2
    exact ⟨u, q.mono (Ext.refl _) (kk b), fun e => by rw [upd_ne (ne h1)]; exact c1 e, fun e => let ⟨o, z⟩ := c2 e; ⟨o, by rw [upd_ne (ne h1)]; exact z⟩⟩
  · rw [upd_ne (fun e => by subst e; exact n2 hz)] at h; exact r.zok a hz h
  · rw [upd_ne (fun e => by subst e; exact n3 hz)] at h; exact r.pok a hz h
/-! ### the turns -/
def turnC (K : Calls) (tg : Tg) (cond : Option DE) (elt : DE) (e : M.Env) : D → S → R (Option D) := fun x s => match bindT s tg x e with
  | some e => (match cond with
    | none => R.ok true s
    | some c => tru (evE K c e s)).bind fun b s => if b then (evE K elt e s).bind fun y s => .ok (some y) s else .ok none s
  | none => .bad
theorem turnC_some {tg : Tg} {cond : Option DE} {elt : DE} {e e' : M.Env} {d : D} {s : S} (h : bindT s tg d e = some e') : turnC K tg cond elt e d s = (match cond with
    | none => R.ok true s
    | some c => tru (evE K c e' s)).bind fun b s => if b then (evE K elt e' s).bind fun y s => .ok (some y) s else .ok none s := by
  unfold turnC
  rw [h]
theorem turnC_none {tg : Tg} {cond : Option DE} {elt : DE} {e : M.Env} {d : D} {s : S} (h : bindT s tg d e = none) : turnC K tg cond elt e d s = .bad := by
  unfold turnC
  rw [h]
def finC (cell : Bool) (ys : List D) (s : S) : R D := if cell then .ok (.rg s.cs.length) (newCell s (.lst ys)) else .ok (.lst ys) s
def goC (K : Calls) (cell : Bool) (tg : Tg) (k : IK) (es : List DE) (cond : Option DE) (elt : DE) (own : List Nat) (e : M.Env) : S → R D := fun s => (evEs K es e s).bind fun ds s => match items s k ds with
  | some (xs, none) => if xs.length ≤ LIM then (noX (lcL (turnC K tg cond elt (M.wipe e own)) xs s)).bind (finC cell) else .bad
  | _ => .bad
theorem evE_lc {cell lk : Bool} {tg : Tg} {k : IK} {es : List DE} {cond : Option DE} {elt : DE} {own : List Nat} : evE K (.lc cell lk tg k es cond elt own) e s = if lk then lockE (evEs K es e s) s (goC K cell tg k es cond elt own e) else goC K cell tg k es cond elt own e s := by
  simp only [evE]
  cases cond <;> rfl
/-- the clause's test -/
def tC1 (G : G0) (K : Calls) (c : Option DE) : TT := match c with
  | none => tYes
  | some c => tT G W0 K c
def tLC (G : G0) (Wx : WX) (K : Calls) (cell : Bool) (tg : Tg) (k : IK) (es : List DE) (cond : Option DE) (elt : DE) (own : List Nat) : TE := fun σ H Q => ∃ W s e, Rel G W s H ∧ EnvR G W H σ e ∧ Post G (VR G) W H (goC K cell tg k es cond elt own e s) Q (wx G Wx σ)
theorem lc_rd {cell : Bool} {tg : Tg} {k : IK} {es : List DE} {cond : Option DE} {elt : DE} {own : List Nat} (hown : ∀ i ∈ tg.is, i ∈ own) {Q : VK} (h : tLC G Wx K cell tg k es cond elt own σ H Q) :
    tLc (tI G Wx K k es) (tgG G.K tg) (tC1 G K cond) (tE G W0 K elt) own σ H Q := by
  obtain ⟨W, s, e, R, ER, P⟩ := h
  refine ⟨W, s, e, R, ER, ?_⟩
  unfold goC at P
  cases hr : evEs K es e s with
  | bad => rw [hr] at P; exact P.elim
  | exc c s1 => rw [hr] at P; exact P
  | ok ds s1 =>
    rw [hr] at P
    simp only [M.R.bind] at P
    unfold PostI
    cases hit : items s1 k ds with
    | none => rw [hit] at P; exact P.elim
    | some p =>
      obtain ⟨xs, o⟩ := p
      cases o with
      | some n => rw [hit] at P; exact P.elim
      | none =>
        rw [hit] at P
        simp only [hit]
        intro W1 J H1 e1 k1 R1 wk D hD
        obtain ⟨Φ, Y, wk, hΦ, kΦ, yΦ⟩ := wk
        simp only at P
        split at P
        · rename_i hL
          have fr := R1.fresh hD
          have ER1 := ER.mono e1 k1.toKeep0
          have kD : Keeps W1 H1 (upd H1 D (.lst [])) := Keeps.new hD
          refine lc_it wk (fun i H2 => ∃ W2 s2 acc vs, Ext W1 W2 ∧ Keeps W1 H1 H2 ∧ Rel G W2 s2 H2 ∧ (D ∉ W2.φ ∧ ¬ W2.Z D ∧ ¬ W2.P D) ∧ H2 D = some (.lst vs) ∧ VRs G W2 H2 vs acc ∧ acc.length ≤ i ∧
              Post G (VR G) W2 H2 ((noX (lcL (turnC K tg cond elt (M.wipe e own)) (xs.drop i) s2)).bind fun ys s => finC cell (acc ++ ys) s) Q (wx G Wx σ))
            ⟨W1, s1, [], [], Ext.refl _, kD, R1.step (upd_keep hD), fr, upd_same, .nil, Nat.zero_le _, Post.rebase P e1 (k1.trans e1 kD)⟩
            (fun i H2 _ ⟨W2, s2, acc, vs, x2, k2, _⟩ => kΦ W2 H2 x2 k2) ?_ ?_
          · rintro i x H2 H3 hi ⟨W2, s2, acc, vs, x2, k2, R2, ⟨n1, n2, n3⟩, hDv, hacc, hlen, P2⟩ y
            obtain ⟨rfl, hd⟩ := yΦ i H2 x _ hi y
            obtain ⟨d, hd1, hd2⟩ := hd W2 x2 k2
            have hdrop : xs.drop i = d :: xs.drop (i + 1) := by
              rw [List.drop_eq_getElem_cons hi]
              have := (List.getElem?_eq_some_iff.mp hd1).2
              rw [this]
            rw [hdrop] at P2
            simp only [lcL] at P2
            have ER2 := (ER1.mono x2 k2.toKeep0).wipe own
            cases hbt : bindT s2 tg d (M.wipe e own) with
            | none => rw [turnC_none hbt] at P2; exact P2.elim
            | some e3 =>
              rw [turnC_some hbt] at P2
              -- the new list is pinned through the turn
              have Rp : Rel G (W2.addP D) s2 H3 := R2.pinP (by rw [hDv]; simp) n1 n2
              have xp : Ext W2 (W2.addP D) := Ext.addP W2 D
              have hd2p := hd2.mono xp (Keep0.refl _ _)
              have ERp := ER2.mono xp (Keep0.refl _ _)
              refine bindT_same hbt hd2p ERp fun σ3 hs3 ER3 => ⟨?_, ?_⟩
              · exact (wipe_same hown hs3).trans (wipe_wipe σ own)
              -- behind the turn
              have back : ∀ {W4 : Wd} {H4 : Hp} {s4 : S}, Ext (W2.addP D) W4 → Keeps (W2.addP D) H3 H4 → Rel G W4 s4 H4 →
                  Ext W2 { W4 with P := W2.P } ∧ Keeps W2 H3 H4 ∧ Rel G { W4 with P := W2.P } s4 H4 ∧ (D ∉ W4.φ ∧ ¬ W4.Z D ∧ ¬ W2.P D) ∧ H4 D = some (.lst vs) := fun {W4 H4 s4} x4 k4 R4 => by
                have hp4 : W4.P D := x4.q D (.inr rfl)
                refine ⟨⟨x4.p, x4.z, fun a h => h⟩, ⟨⟨k4.tup, k4.z, k4.zi, k4.ze⟩, k4.frz, fun a u h => k4.pin a u (.inl h)⟩, R4.unpin fun a h => x4.q a (.inl h), ⟨fun h => R4.sepP D h hp4, R4.sepZ D hp4, n3⟩, k4.pin D _ (.inr rfl) hDv⟩
              have accLt : acc.length < sizeLine := by rw [← LIM_eq]; omega
              -- the element
              have elt_ok : ∀ {W3 : Wd} {H4 : Hp} {s3 : S} , Ext (W2.addP D) W3 → Keeps (W2.addP D) H3 H4 → Rel G W3 s3 H4 → Post G (VR G) W2 H3 ((noX ((evE K elt e3 s3).bind fun y s => (lcL (turnC K tg cond elt (M.wipe e own)) (xs.drop (i + 1)) s).bind fun ys s => M.R.ok (y :: ys) s)).bind fun ys s => finC cell (acc ++ ys) s) Q (wx G Wx σ) →
                  tE G W0 K elt σ3 H4 fun y H5 => ∃ acc', H5 D = some (.lst acc') ∧ acc'.length < sizeLine ∧ ∃ W2 s2 acc vs, Ext W1 W2 ∧ Keeps W1 H1 (upd H5 D (.lst (acc' ++ [y]))) ∧ Rel G W2 s2 (upd H5 D (.lst (acc' ++ [y]))) ∧ (D ∉ W2.φ ∧ ¬ W2.Z D ∧ ¬ W2.P D) ∧ (upd H5 D (.lst (acc' ++ [y]))) D = some (.lst vs) ∧ VRs G W2 (upd H5 D (.lst (acc' ++ [y]))) vs acc ∧ acc.length ≤ i + 1 ∧
                    Post G (VR G) W2 (upd H5 D (.lst (acc' ++ [y]))) ((noX (lcL (turnC K tg cond elt (M.wipe e own)) (xs.drop (i + 1)) s2)).bind fun ys s => finC cell (acc ++ ys) s) Q (wx G Wx σ) := fun {W3 H4 s3} x3 k3 R3 P3 => by
                refine ⟨W3, s3, e3, R3, ER3.mono x3 k3.toKeep0, ?_⟩
                cases he : evE K elt e3 s3 with
                | bad => rw [he] at P3; exact P3.elim
                | exc c s5 => rw [he] at P3; exact P3.elim
                | ok dy s5 =>
                  rw [he] at P3
                  intro W5 y H5 x5 k5 R5 v5
                  obtain ⟨b1, b2, b3, b4, b5⟩ := back (x3.trans x5) (k3.trans x3 k5) R5
                  refine ⟨vs, b5, by rw [hacc.length]; exact accLt, ?_⟩
                  have ko : Keeps { W5 with P := W2.P } H5 (upd H5 D (.lst (vs ++ [y]))) := Keeps.other b5 b4.2.1 b4.2.2
                  refine ⟨{ W5 with P := W2.P }, s5, acc ++ [dy], vs ++ [y], x2.trans b1, (k2.trans x2 b2).trans (x2.trans b1) ko, b3.other b5 b4.1 b4.2.1 b4.2.2, b4, upd_same, ?_, by rw [List.length_append]; exact Nat.succ_le_succ hlen, ?_⟩
                  · exact ((hacc.mono b1 b2.toKeep0).snoc v5.unP).mono (Ext.refl _) ko.toKeep0
                  · have P4 := P3.rebase b1 (b2.trans b1 ko)
                    have e6 : (noX ((lcL (turnC K tg cond elt (M.wipe e own)) (xs.drop (i + 1)) s5).bind fun ys s => M.R.ok (dy :: ys) s)).bind (fun ys s => finC cell (acc ++ ys) s) = (noX (lcL (turnC K tg cond elt (M.wipe e own)) (xs.drop (i + 1)) s5)).bind fun ys s => finC cell ((acc ++ [dy]) ++ ys) s := by
                      cases lcL (turnC K tg cond elt (M.wipe e own)) (xs.drop (i + 1)) s5 with
                      | ok ys s => simp [noX, M.R.bind, List.append_assoc]
                      | exc c s => rfl
                      | bad => rfl
                    rw [← e6]
                    exact P4
              cases cond with
              | none =>
                unfold tC1 tYes
                simp only [if_true]
                refine elt_ok (Ext.refl _) (Keeps.refl _ _) Rp ?_
                simp only [M.R.bind, if_true] at P2 ⊢
                cases he : evE K elt e3 s2 <;> rw [he] at P2 <;> exact P2
              | some c =>
                show tT G W0 K c σ3 H3 _
                refine ⟨W2.addP D, s2, e3, Rp, ER3, ?_⟩
                cases hc : tru (evE K c e3 s2) with
                | bad => simp only [hc] at P2; exact P2.elim
                | exc c' s3 => simp only [hc] at P2; exact P2.elim
                | ok b s3 =>
                  simp only [hc] at P2
                  intro W3 b' H4 x3 k3 R3 hb
                  have hb' : b' = b := hb
                  subst hb'
                  cases b' with
                  | true =>
                    rw [if_pos rfl]
                    refine elt_ok x3 k3 R3 ?_
                    simp only [M.R.bind, if_true] at P2 ⊢
                    cases he : evE K elt e3 s3 <;> rw [he] at P2 <;> exact P2
                  | false =>
                    rw [if_neg Bool.false_ne_true]
                    obtain ⟨b1, b2, b3, b4, b5⟩ := back x3 k3 R3
                    refine ⟨{ W3 with P := W2.P }, s3, acc, vs, x2.trans b1, k2.trans x2 b2, b3, b4, b5, hacc.mono b1 b2.toKeep0, Nat.le_succ_of_le hlen, ?_⟩
                    have P4 := Post.rebase P2 b1 b2
                    simp only [M.R.bind, if_neg Bool.false_ne_true] at P4
                    cases hl : lcL (turnC K tg (some c) elt (M.wipe e own)) (xs.drop (i + 1)) s3 <;> rw [hl] at P4 <;> exact P4
          · rintro H2 ⟨W2, s2, acc, vs, x2, k2, R2, ⟨n1, n2, n3⟩, hDv, hacc, hlen, P2⟩
            rw [List.drop_length] at P2
            simp only [lcL, noX, M.R.bind, List.append_nil] at P2
            unfold finC at P2
            cases cell with
            | false =>
              simp only [if_neg Bool.false_ne_true] at P2
              exact Post.ret P2 (Ext.addZ W2 D) (Keeps.refl _ _) (R2.freeze (by rw [hDv]; simp) n1 n3) (.lst (.inr rfl) (.inl hDv) (hacc.mono (Ext.addZ W2 D) (Keep0.refl _ _)))
            | true =>
              simp only [if_true] at P2
              obtain ⟨r3, v3⟩ := R2.addCell hDv n1 n2 n3 (HoR.lst hacc)
              exact Post.ret P2 (Ext.addC W2 D) (Keeps.refl _ _) r3 v3
        · exact P.elim
end
end MS

set_option Elab.async false
set_option linter.all false
set_option maxRecDepth 100000
set_option maxHeartbeats 400000
set_option autoImplicit false
/-! S13: comprehensions as expressions and as values of names; sets. -/
namespace MS
open PySem L2 M

section
variable {G : G0} {X : Cx} {Wx : WX} {K : Calls} {σ : L2.St} {H H' : Hp} {W W' : Wd} {s s' : S} {e : M.Env}
theorem takes0 (X : Cx) : Takes X W0 := fun u s' ⟨_, _, _, _, _, _, _, _, _, _, _, _, _, _, _, _, w⟩ => w.elim
theorem XC.blk (C : XC G X Wx) (s : Shared) (H : Hp) (scope : Scope) (cenv : PySem.Env) (fp : List Addr) : XC G (X.blk s H scope cenv fp) W0 := ⟨C.K, takes0 _, C.nd, C.calm, C.hu⟩
/-- within a lock -/
theorem lockE_rd {es : List DE} {go : S → R D} {Q : VK} {t : TE} (R : Rel G W s H) (ER : EnvR G W H σ e) (P : Post G (VR G) W H (lockE (evEs K es e s) s go) Q (wx G Wx σ))
    (ht : ∀ H2 W2 s2 Q2, Rel G W2 s2 H2 → EnvR G W2 H2 σ e → Post G (VR G) W2 H2 (go s2) Q2 (wx G Wx σ) → t σ H2 Q2) : tLockE t σ H Q := by
  unfold lockE at P
  cases hn : lockCell s (evEs K es e s) with
  | none => rw [hn] at P; exact P.elim
  | some n =>
    rw [hn] at P
    simp only at P
    obtain ⟨c, hc, hcl⟩ := lockCell_some hn
    have hlt : n < W.φ.length := by rw [R.len]; exact (List.getElem?_eq_some_iff.mp hc).1
    have ha : W.φ[n]? = some W.φ[n] := List.getElem?_eq_getElem hlt
    generalize W.φ[n] = a at ha
    obtain ⟨u, hu, hr, _⟩ := R.cellU ha hc
    obtain ⟨cl, mu⟩ := canLock_of hr hcl
    refine ⟨a, u, hu, mu, fun od => ?_⟩
    obtain ⟨k1, R1⟩ := R.lock ha hc hu hr od
    have nz : ¬ W.Z a := fun hz => R.sep a (List.mem_of_getElem? ha) hz
    have np : ¬ W.P a := fun hz => R.sepP a (List.mem_of_getElem? ha) hz
    refine ht _ W (lockAt s n true) _ R1 (ER.mono (Ext.refl W) k1.toKeep0) ?_
    cases hg : go (lockAt s n true) with
    | bad => rw [hg] at P; exact P.elim
    | exc c' s' =>
      rw [hg] at P
      exact fun W' H' x' k' r' => P W' H' x' (k1.trans (Ext.refl W) k') r'
    | ok d s' =>
      rw [hg] at P
      intro W' v H' x' k' r' vr'
      have hf : H' a = some (.frz od u) := k'.frz a od u upd_same
      obtain ⟨k2, r2⟩ := r'.unlock (x'.at ha) hf
      exact ⟨hf, P W' v (upd H' a u) x' (Keeps.around hu cl nz np k') r2 (vr'.mono (Ext.refl _) k2)⟩
variable {cell : Bool} {tg : Tg} {k : IK} {es : List DE} {cond : Option DE} {m : DE} {elt et ei : Expr} {ifs : List Expr} {scope : Scope} {own : List (Str × Nat)} {pos : Pos}
/-- a comprehension's parts -/
structure LcOk (G : G0) (X : Cx) (Wx : WX) (K : Calls) (tg : Tg) (k : IK) (es : List DE) (cond : Option DE) (m : DE) (elt et ei : Expr) (ifs : List Expr) (scope : Scope) (own : List (Str × Nat)) : Prop where
  hi : PI X et ei (tI G Wx K k es)
  ok : BlkOk X.N X.env.scope scope own
  hown : ∀ i ∈ tg.is, i ∈ own.map (·.2)
  hg : ∀ (s : Shared) (H : Hp) (C : Addr) (cl : List (Str × Addr)) (fp : List Addr), PG (X.blk s H scope (compEnvC scope cl C X.env) fp) et (tgG G.K tg)
  ht : ∀ (s : Shared) (H : Hp) (C : Addr) (cl : List (Str × Addr)) (fp : List Addr), PTs (X.blk s H scope (compEnvC scope cl C X.env) fp) ifs (tC1 G K cond)
  he : ∀ (s : Shared) (H : Hp) (C : Addr) (cl : List (Str × Addr)) (fp : List Addr), PE (X.blk s H scope (compEnvC scope cl C X.env) fp) elt (tE G W0 K m)
  hs : ∀ x, foldedSetIterable ei X.env x = pure x
theorem pts0 {X : Cx} : PTs X [] (tC1 G K none) := pts_nil
theorem pts1 {X : Cx} {c : Expr} {mc : DE} (h : PT X c (tT G W0 K mc)) : PTs X [c] (tC1 G K (some mc)) := pts_one h
theorem e_lc (C : XC G X Wx) (L : LcOk G X Wx K tg k es cond m elt et ei ifs scope own) : PE X (.ListComp elt [⟨et, ei, ifs, 0⟩] scope pos) (tE G Wx K (.lc cell false tg k es cond m (own.map (·.2)))) :=
  (pe_lc C.calm C.nd L.hi L.ok L.hg L.ht L.he L.hs).imp fun σ H Q ⟨W, s, e, R, ER, P⟩ => lc_rd L.hown ⟨W, s, e, R, ER, by rw [evE_lc] at P; simpa using P⟩
theorem e_lcL (C : XC G X Wx) (L : LcOk G X Wx K tg k es cond m elt et ei ifs scope own) : PE X (.ListComp elt [⟨et, ei, ifs, 0⟩] scope pos) (tE G Wx K (.lc cell true tg k es cond m (own.map (·.2)))) :=
  (pe_lock (pe_lc C.calm C.nd L.hi L.ok L.hg L.ht L.he L.hs)).imp fun σ H Q ⟨W, s, e, R, ER, P⟩ => by
    rw [evE_lc] at P
    simp only [if_true] at P
    exact lockE_rd R ER P fun H2 W2 s2 Q2 R2 ER2 P2 => lc_rd L.hown ⟨W2, s2, e, R2, ER2, P2⟩
/-- name = an expression -/
theorem set_rd {i : Nat} {a : DE} {D : Ends} (h : tS G Wx K (.set i a) D σ H) : tAsg (tE G Wx K a) (gName i) D σ H := by
  obtain ⟨W, s, e, R, ER, P⟩ := h
  simp only [evS] at P
  refine ⟨W, s, e, R, ER, P.st ER (rel := VR G) fun d s1 W1 v H1 x1 k1 R1 v1 P1 => ?_⟩
  split at P1
  · exact P1.nxt R1 ((ER.mono x1 k1.toKeep0).put v1)
  · exact P1.elim
theorem s_set {i : Nat} {x : Str} {ex : Expr} {a : DE} {pos' : Pos} (C : XC G X Wx) (hi : X.N[i]? = some x) (hx : Loc X.env.scope x) (he : PE X ex (tE G Wx K a)) (hs : swapsWith ex (some (.Name x pos')) pos.line X.env = pure false) (hf : X.fn x = true ∨ X.env.scope.names.lookup x = some .local) :
    PS X (.Assign [.Name x pos'] ex pos) (tS G Wx K (.set i a)) := (ps_set C.nd hi hx he hs hf).imp fun D σ H h => set_rd h
theorem s_setLc {i : Nat} {y : Str} {py : Pos} {spos : Pos} (C : XC G X Wx) (hy : X.N[i]? = some y) (hyl : X.env.scope.names.lookup y = some .local)
    (hsw : swapsWith (.ListComp elt [⟨et, ei, ifs, 0⟩] scope pos) (some (.Name y py)) spos.line X.env = pure true) (L : LcOk G X Wx K tg k es cond m elt et ei ifs scope own) :
    PS X (.Assign [.Name y py] (.ListComp elt [⟨et, ei, ifs, 0⟩] scope pos) spos) (tS G Wx K (.set i (.lc cell false tg k es cond m (own.map (·.2))))) :=
  (ps_setLc C.calm C.nd hy hyl hsw L.hi L.ok L.hg L.ht L.he L.hs).imp fun D σ H h => by
    obtain ⟨W, s, e, R, ER, P⟩ := set_rd h
    exact lc_rd (cell := cell) L.hown ⟨W, s, e, R, ER, by rw [evE_lc] at P; simpa using P⟩
theorem s_setLcL {i : Nat} {y : Str} {py : Pos} {spos : Pos} (C : XC G X Wx) (hy : X.N[i]? = some y) (hyl : X.env.scope.names.lookup y = some .local)
    (hsw : swapsWith (.ListComp elt [⟨et, ei, ifs, 0⟩] scope pos) (some (.Name y py)) spos.line X.env = pure true) (L : LcOk G X Wx K tg k es cond m elt et ei ifs scope own) :
    PS X (.Assign [.Name y py] (.ListComp elt [⟨et, ei, ifs, 0⟩] scope pos) spos) (tS G Wx K (.set i (.lc cell true tg k es cond m (own.map (·.2))))) :=
  (ps_lock (ps_setLc C.calm C.nd hy hyl hsw L.hi L.ok L.hg L.ht L.he L.hs)).imp fun D σ H h => by
    obtain ⟨W, s, e, R, ER, P⟩ := set_rd h
    rw [evE_lc] at P
    simp only [if_true] at P
    obtain ⟨d, u, h1, h2, h3⟩ := lockE_rd (t := tLc (tI G Wx K k es) (tgG G.K tg) (tC1 G K cond) (tE G W0 K m) (own.map (·.2))) R ER P fun H2 W2 s2 Q2 R2 ER2 P2 => lc_rd (cell := cell) L.hown ⟨W2, s2, e, R2, ER2, P2⟩
    exact ⟨d, u, h1, h2, fun od => h3 od⟩
end
end MS

set_option Elab.async false
set_option linter.all false
set_option maxRecDepth 100000
set_option maxHeartbeats 400000
set_option autoImplicit false
/-! S14: statements. -/
namespace MS
open PySem L2 M

section
variable {G : G0} {X : Cx} {Wx : WX} {K : Calls} {σ : L2.St} {H H' : Hp} {W W' : Wd} {s s' : S} {e : M.Env} {pos pos' : Pos} {ea eb : Expr} {a b : DE}
/-! ### blocks -/
theorem ss_nil : PSs X [] (tSs G Wx K []) := pss_nil.imp fun D σ H ⟨W, s, e, R, ER, P⟩ => by
  simp only [evSs] at P
  exact P.nxt R ER
theorem ss_cons {st : Stmt} {rest : List Stmt} {m : DS} {ms : List DS} (h1 : PS X st (tS G Wx K m)) (h2 : PSs X rest (tSs G Wx K ms)) : PSs X (st :: rest) (tSs G Wx K (m :: ms)) :=
  (pss_cons h1 h2).imp fun D σ H ⟨W, s, e, R, ER, P⟩ => by
    simp only [evSs] at P
    refine ⟨W, s, e, R, ER, ?_⟩
    cases h : evS K m e s with
    | bad => rw [h] at P; exact P.elim
    | exc c e' s' => rw [h] at P; exact P
    | rt d s' => rw [h] at P; exact P
    | nx e' s' =>
      rw [h] at P
      exact fun W' σ' H' x' k' R' ER' => ⟨W', s', e', R', ER', P.rebase x' k'⟩
theorem ss_doc {x j} {rest : List Stmt} {ms : List DS} {p p' : Pos} (h2 : PSs X rest (tSs G Wx K ms)) : PSs X (.Expr (.Constant (.str x) j p) p' :: rest) (tSs G Wx K ms) :=
  (pss_cons ps_doc h2).imp fun D σ H h => h
theorem s_pass : PS X (.Pass pos) (tS G Wx K .pass) := ps_pass.imp fun D σ H ⟨W, s, e, R, ER, P⟩ => by
  simp only [evS] at P
  exact P.nxt R ER
theorem s_expr (he : PE X ea (tE G Wx K a)) (hs : swapsWith ea none pos.line X.env = pure false) : PS X (.Expr ea pos) (tS G Wx K (.expr a)) :=
  (ps_expr he hs).imp fun D σ H ⟨W, s, e, R, ER, P⟩ => by
    simp only [evS] at P
    exact ⟨W, s, e, R, ER, P.st ER (rel := VR G) fun d s1 W1 v H1 x1 k1 R1 v1 P1 => P1.nxt R1 (ER.mono x1 k1.toKeep0)⟩
theorem PostF.rtt {d : M.D} {D : Ends} (h : PostF G Wx W H (.rt d s) D) (r : Rel G W s H) {v : V} (q : VR G W H v d) : D.rt v H := h W v H (Ext.refl W) (Keeps.refl W H) r q
theorem s_ret (he : PE X ea (tE G Wx K a)) : PS X (.Return (some ea) pos) (tS G Wx K (.ret a)) :=
  (ps_ret he).imp fun D σ H ⟨W, s, e, R, ER, P⟩ => by
    simp only [evS] at P
    exact ⟨W, s, e, R, ER, P.st ER (rel := VR G) fun d s1 W1 v H1 x1 k1 R1 v1 P1 => P1.rtt R1 v1⟩
theorem s_retN : PS X (.Return none pos) (tS G Wx K .retN) :=
  ps_retN.imp fun D σ H ⟨W, s, e, R, ER, P⟩ => by
    simp only [evS] at P
    exact P.rtt R .non
theorem s_if {c : Expr} {mc : DE} {sa sb : List Stmt} {ma mb : List DS} (hc : PT X c (tT G Wx K mc)) (ha : PSs X sa (tSs G Wx K ma)) (hb : PSs X sb (tSs G Wx K mb)) : PS X (.If c sa sb pos) (tS G Wx K (.ite mc ma mb)) :=
  (ps_if hc ha hb).imp fun D σ H ⟨W, s, e, R, ER, P⟩ => by
    simp only [evS] at P
    refine ⟨W, s, e, R, ER, P.st ER (rel := relB) fun d s1 W1 v H1 x1 k1 R1 v1 P1 => ?_⟩
    have hv : v = d := v1
    subst hv
    cases v with
    | true => rw [if_pos rfl]; rw [if_pos rfl] at P1; exact ⟨W1, s1, e, R1, ER.mono x1 k1.toKeep0, P1⟩
    | false => rw [if_neg Bool.false_ne_true]; rw [if_neg Bool.false_ne_true] at P1; exact ⟨W1, s1, e, R1, ER.mono x1 k1.toKeep0, P1⟩
/-- while: within its turns -/
theorem s_while {c : Expr} {mc : DE} {sb : List Stmt} {mb : List DS} (hp : PassesOwn (model X.prog X.w) X.A X.env X.xe) (hc : PT X c (tT G Wx K mc)) (hb : PSs X sb (tSs G Wx K mb)) : PS X (.While c sb [] pos) (tS G Wx K (.whl mc mb)) :=
  (ps_while hp hc hb).imp fun D σ H ⟨W, s, e, R, ER, P⟩ => by
    simp only [evS] at P
    refine ⟨fun n σ2 H2 => ∃ W2 s2 e2, Rel G W2 s2 H2 ∧ EnvR G W2 H2 σ2 e2 ∧ PostF G Wx W2 H2 (whlL (fun e s => tru (evE K mc e s)) (fun e s => evSs K mb e s) n e2 s2) D, ⟨300, W, s, e, R, ER, P⟩, ?_⟩
    rintro n σ2 H2 ⟨W2, s2, e2, R2, ER2, P2⟩
    cases n with
    | zero => exact P2.elim
    | succ n =>
      simp only [whlL] at P2
      refine ⟨W2, s2, e2, R2, ER2, P2.st ER2 (rel := relB) fun d s3 W3 v H3 x3 k3 R3 v3 P3 => ?_⟩
      have hv : v = d := v3
      subst hv
      cases v with
      | false =>
        rw [if_neg Bool.false_ne_true]
        rw [if_neg Bool.false_ne_true] at P3
        exact P3.nxt R3 (ER2.mono x3 k3.toKeep0)
      | true =>
        rw [if_pos rfl]
        rw [if_pos rfl] at P3
        refine ⟨fun σ' H' => ∃ W2 s2 e2, Rel G W2 s2 H' ∧ EnvR G W2 H' σ' e2 ∧ PostF G Wx W2 H' (whlL (fun e s => tru (evE K mc e s)) (fun e s => evSs K mb e s) n e2 s2) D, fun σ' H' h => ⟨n, Nat.lt_succ_self n, h⟩, W3, s3, e2, R3, ER2.mono x3 k3.toKeep0, ?_⟩
        cases hbody : evSs K mb e2 s3 with
        | bad => rw [hbody] at P3; exact P3.elim
        | exc c e4 s4 => rw [hbody] at P3; exact P3
        | rt d4 s4 => rw [hbody] at P3; exact P3
        | nx e4 s4 =>
          rw [hbody] at P3
          exact fun W4 σ4 H4 x4 k4 R4 ER4 => ⟨W4, s4, e4, R4, ER4, P3.rebase x4 k4⟩
/-! ### for -/
theorem s_for0 {tg : Tg} {k : IK} {es : List DE} {body : List DS} {et ei : Expr} {sb : List Stmt} (C : XC G X Wx) (hp : PassesOwn (model X.prog X.w) X.A X.env X.xe) (hi : PI X et ei (tI G Wx K k es)) (hg : PG X et (tgG G.K tg)) (hb : PSs X sb (tSs G Wx K body))
    (hs : ∀ x, foldedSetIterable ei X.env x = pure x) : PS X (.For et ei sb [] pos) (tS G Wx K (.loop false tg k es body)) :=
  (s_for C.K hp C.calm hi hg hb hs).imp fun D σ H ⟨W, s, e, R, ER, P⟩ => ⟨W, s, e, R, ER, by rw [evS_loop] at P; simpa using P⟩
theorem s_forL {tg : Tg} {k : IK} {es : List DE} {body : List DS} {et ei : Expr} {sb : List Stmt} (C : XC G X Wx) (hp : PassesOwn (model X.prog X.w) X.A X.env X.xe) (hi : PI X et ei (tI G Wx K k es)) (hg : PG X et (tgG G.K tg)) (hb : PSs X sb (tSs G Wx K body))
    (hs : ∀ x, foldedSetIterable ei X.env x = pure x) : PS X (.For et ei sb [] pos) (tS G Wx K (.loop true tg k es body)) :=
  (s_lock (s_for C.K hp C.calm hi hg hb hs)).imp fun D σ H ⟨W, s, e, R, ER, P⟩ => ⟨W, s, e, R, ER, by rw [evS_loop] at P; simpa using P⟩
/-! ### several names -/
theorem s_par {i j : Nat} {x y : Str} {px py pt : Pos} {kt k2 pt2} (C : XC G X Wx) (hi : X.N[i]? = some x) (hj : X.N[j]? = some y) (hij : i ≠ j)
    (hx : X.env.scope.names.lookup x = some .local) (hy : X.env.scope.names.lookup y = some .local) (ha : PA X [ea, eb] (tA G Wx K [a, b]))
    (hw : swappedStores [.Tuple [.Name x px, .Name y py] kt pt] (.Tuple [ea, eb] k2 pt2) X.env = pure (some [x, y]))
    (hs : swapsWithSole [.Tuple [.Name x px, .Name y py] kt pt] (.Tuple [ea, eb] k2 pt2) pos.line X.env = pure false) :
    PS X (.Assign [.Tuple [.Name x px, .Name y py] kt pt] (.Tuple [ea, eb] k2 pt2) pos) (tS G Wx K (.par [i, j] [a, b])) :=
  (ps_par C.calm C.nd hi hj hij hx hy ha hw hs).imp fun D σ H ⟨W, s, e, R, ER, P⟩ => by
    simp only [evS] at P
    refine ⟨W, s, e, R, ER, P.st ER (rel := VRs G) fun ds s1 W1 vs H1 x1 k1 R1 v1 P1 => ?_⟩
    cases hsa : setAll [i, j] ds e with
    | none => rw [hsa] at P1; exact P1.elim
    | some e' =>
      rw [hsa] at P1
      obtain ⟨v, rest, rfl, h2⟩ := setAll_ok (Q := fun σ' H' => EnvR G W1 H' σ' e' ∧ H' = H1) hsa v1 (ER.mono x1 k1.toKeep0) fun σ' h => ⟨h, rfl⟩
      obtain ⟨w, rest', rfl, rfl, h4, _⟩ := h2
      exact ⟨v, w, rfl, P1.nxt R1 h4⟩
theorem s_par3 {i j l : Nat} {x y z : Str} {ec : Expr} {c : DE} {px py pz pt : Pos} {kt k2 pt2} (C : XC G X Wx) (hi : X.N[i]? = some x) (hj : X.N[j]? = some y) (hl : X.N[l]? = some z) (hij : i ≠ j) (hil : i ≠ l) (hjl : j ≠ l)
    (hx : X.env.scope.names.lookup x = some .local) (hy : X.env.scope.names.lookup y = some .local) (hz : X.env.scope.names.lookup z = some .local) (ha : PA X [ea, eb, ec] (tA G Wx K [a, b, c]))
    (hw : swappedStores [.Tuple [.Name x px, .Name y py, .Name z pz] kt pt] (.Tuple [ea, eb, ec] k2 pt2) X.env = pure (some [x, y, z]))
    (hs : swapsWithSole [.Tuple [.Name x px, .Name y py, .Name z pz] kt pt] (.Tuple [ea, eb, ec] k2 pt2) pos.line X.env = pure false) :
    PS X (.Assign [.Tuple [.Name x px, .Name y py, .Name z pz] kt pt] (.Tuple [ea, eb, ec] k2 pt2) pos) (tS G Wx K (.par [i, j, l] [a, b, c])) :=
  (ps_par3 C.calm C.nd hi hj hl hij hil hjl hx hy hz ha hw hs).imp fun D σ H ⟨W, s, e, R, ER, P⟩ => by
    simp only [evS] at P
    refine ⟨W, s, e, R, ER, P.st ER (rel := VRs G) fun ds s1 W1 vs H1 x1 k1 R1 v1 P1 => ?_⟩
    cases hsa : setAll [i, j, l] ds e with
    | none => rw [hsa] at P1; exact P1.elim
    | some e' =>
      rw [hsa] at P1
      obtain ⟨v, rest, rfl, h2⟩ := setAll_ok (Q := fun σ' H' => EnvR G W1 H' σ' e' ∧ H' = H1) hsa v1 (ER.mono x1 k1.toKeep0) fun σ' h => ⟨h, rfl⟩
      obtain ⟨w, rest', rfl, h3⟩ := h2
      obtain ⟨u, rest'', rfl, rfl, h4, _⟩ := h3
      exact ⟨v, w, u, rfl, P1.nxt R1 h4⟩
/-! ### targets -/
theorem g_one {i : Nat} {x : Str} {px : Pos} (C : XC G X Wx) (hi : X.N[i]? = some x) (hx : Loc X.env.scope x) (hf : X.fn x = true ∨ X.env.scope.names.lookup x = some .local) : PG X (.Name x px) (tgG G.K ⟨[i], false⟩) := by
  have := pg_name (pos := px) C.nd hi hx hf
  exact this
theorem g_tup {es : List Expr} {k : Nat} {is : List Nat} {p : Pos} (C : XC G X Wx) (h : PGs X es (is.foldr (fun i u => gCons (gName i) u) gNil)) (hn : (assignEach es X.env).length = is.length) (hst : (assignEach es X.env).findIdx? (·.1) = none) : PG X (.Tuple es k p) (tgG G.K ⟨is, true⟩) := by
  have h1 := pg_tup (pos := p) (k := k) C.calm h hn hst
  rw [C.K] at h1
  exact h1
theorem gs_nil : PGs X [] (([] : List Nat).foldr (fun i u => gCons (gName i) u) gNil) := pgs_nil
theorem gs_cons {i : Nat} {x : Str} {px : Pos} {es : List Expr} {is : List Nat} (C : XC G X Wx) (hi : X.N[i]? = some x) (hx : Loc X.env.scope x) (hf : X.fn x = true ∨ X.env.scope.names.lookup x = some .local) (h2 : PGs X es (is.foldr (fun i u => gCons (gName i) u) gNil))
    (hs : (assignEach (.Name x px :: es) X.env).map (·.2) = assign (.Name x px) X.env :: (assignEach es X.env).map (·.2)) : PGs X (.Name x px :: es) ((i :: is).foldr (fun i u => gCons (gName i) u) gNil) :=
  pgs_cons (pg_name C.nd hi hx hf) h2 hs
/-- x, y = e -/
theorem s_setT {is : List Nat} {et : Expr} (he : PE X ea (tE G Wx K a)) (hg : PG X et (tgG G.K ⟨is, true⟩)) (hs : swapsWithSole [et] ea pos.line X.env = pure false) (hw : swappedStores [et] ea X.env = pure none)
    (h1 : (assignEach [et] X.env).map (·.2) = [assign et X.env]) : PS X (.Assign [et] ea pos) (tS G Wx K (.setT is a)) :=
  (ps_asg he hg hs hw h1).imp fun D σ H ⟨W, s, e, R, ER, P⟩ => by
    simp only [evS] at P
    refine ⟨W, s, e, R, ER, P.st ER (rel := VR G) fun d s1 W1 v H1 x1 k1 R1 v1 P1 => ?_⟩
    cases d with
    | tup ds =>
      simp only at P1
      cases hsa : setAll is ds e with
      | none => rw [hsa] at P1; exact P1.elim
      | some e' =>
        rw [hsa] at P1
        exact bindT_ok (s := s1) (t := ⟨is, true⟩) (by show setAll is ds e = some e'; exact hsa) v1 (ER.mono x1 k1.toKeep0) fun σ' h => P1.nxt R1 h
    | _ => exact P1.elim
end
end MS

set_option Elab.async false
set_option linter.all false
set_option maxRecDepth 100000
set_option maxHeartbeats 400000
set_option autoImplicit false
/-! S15: attributes, parts, reversed. -/
namespace HT
open PySem PySem.Spec PyProof.Rows
theorem fm_congr {α β : Type} {f g : α → Option β} : ∀ {l : List α}, (∀ x ∈ l, f x = g x) → l.filterMap f = l.filterMap g
  | [], _ => rfl
  | x :: l, h => by rw [List.filterMap_cons, List.filterMap_cons, h x List.mem_cons_self, fm_congr fun y hy => h y (List.mem_cons_of_mem _ hy)]
theorem rev_adjust (n : Nat) : Builtin.Slice.sliceAdjust none none (-1) (n : Int) = ((n : Int) - 1, -1) := by
  unfold Builtin.Slice.sliceAdjust
  simp
theorem rev_places (n : Nat) : Builtin.Slice.slicePlaces ((n : Int) - 1) (-1) (-1) = n := by
  unfold Builtin.Slice.slicePlaces
  have h1 : ¬ ((-1 : Int) > 0) := by decide
  by_cases h : (n : Int) - 1 > -1
  · simp only [h1, if_false, h, if_true]
    rw [show (- -1 : Int) = 1 by decide, Int.ediv_one]
    omega
  · simp only [h1, if_false, h]
    omega
theorem rev_pick (xs : Array Value) : ((List.range xs.size).filterMap fun (k : Nat) => xs[(((xs.size : Int) - 1) + (k : Int) * (-1)).toNat]?).toArray = xs.toList.reverse.toArray := by
  have e : (List.range xs.size).filterMap (fun (k : Nat) => xs[(((xs.size : Int) - 1) + (k : Int) * (-1)).toNat]?) = (List.range xs.size).filterMap (fun k => xs[xs.size - 1 - k]?) := by
    refine fm_congr ?_
    intro k hk
    have hk := List.mem_range.mp hk
    have : (((xs.size : Int) - 1) + (k : Int) * (-1)).toNat = xs.size - 1 - k := by omega
    rw [this]
  rw [e]
  have e2 : (List.range xs.size).filterMap (fun k => xs[xs.size - 1 - k]?) = ((List.range xs.size).map (fun k => xs.size - 1 - k)).filterMap (xs[·]?) := by
    rw [List.filterMap_map]; rfl
  rw [e2, PySem.W.krv_range, List.filterMap_reverse, PySem.W.krv_all]
section
variable {prog : Program} {w : World} {A : Around} {E : Value → Shared → Prop} {s : Shared}
theorem sliceApplied_rev {sl : Addr} {vl vu vs : Value} {n : Nat} {Q : Int × Int × Nat → Shared → Prop} (hs : s.heap.IsSliceOf sl vl vu vs) (pl : IsPart vl none) (pu : IsPart vu none) (ps : IsPart vs (some (-1)))
    (h : Q ((n : Int) - 1, -1, n) s) : wpAny (model prog w) A (Builtin.Slice.sliceApplied (.ref sl) (pure (n : Int))) Q E s := by
  obtain ⟨os, hos, hcs, hds⟩ := id hs
  unfold Builtin.Slice.sliceApplied Builtin.Slice.sliceFields
  refine wpAny_bind (wpAny_bind (wpAny_field hos hds (x := vl) rfl (wpAny_bind (wpAny_field hos hds (x := vu) rfl (wpAny_bind (wpAny_field hos hds (x := vs) rfl (wpAny_pure ?_)))))))
  refine wpAny_bind (slicePart_ ps ?_)
  show wpAny _ _ (if ((-1 : Int) == 0) = true then _ else _) _ _ s
  rw [if_neg (by decide)]
  refine wpAny_bind (slicePart_ pl (wpAny_bind (slicePart_ pu (wpAny_bind (wpAny_pure ?_)))))
  show wpAny _ _ (match Builtin.Slice.sliceAdjust none none (-1) (n : Int) with | (lo, hi) => pure (lo, (-1 : Int), Builtin.Slice.slicePlaces lo hi (-1))) _ _ s
  rw [rev_adjust]
  show wpAny _ _ (pure ((n : Int) - 1, (-1 : Int), Builtin.Slice.slicePlaces ((n : Int) - 1) (-1) (-1))) _ _ s
  rw [rev_places]
  exact wpAny_pure h
theorem getItem_tuple_rev {t sl : Addr} {items : Array Value} {vl vu vs : Value} {Q : Value → Shared → Prop} (ht : IsTup s.heap t items) (hs : s.heap.IsSliceOf sl vl vu vs) (pl : IsPart vl none) (pu : IsPart vu none) (ps : IsPart vs (some (-1)))
    (h : Q (.ref s.heap.objs.size) { s with heap := s.heap.push { cls := .type "tuple", data := .seq items.toList.reverse.toArray } })
    (hsz : items.size ≤ sizeLine) : wpAny (model prog w) A (getItem (.ref t) (.ref sl)) Q E s := by
  have htake : sizeOk (.seq items.toList.reverse.toArray) := by
    show items.toList.reverse.toArray.size ≤ sizeLine
    rw [List.size_toArray, List.length_reverse, Array.length_toList]
    exact hsz
  obtain ⟨os, hos, hcs, hds⟩ := id hs
  have hTs : s.TypeIs (.ref sl) "slice" := ⟨os, hos, hcs⟩
  unfold getItem
  try with_reducible refine wpAny_holding ?_
  first | refine wpAny_bind (wpAny_pure ?_) | skip
  refine wpAny_bind (wpAny_sequenceKey ht.typeIs (by decide) ?_)
  refine wpAny_bind (wpAny_callSpecial?_slot (name := Str.ofString "__getitem__") ht.typeIs PyProof.Rows.slot_tuple_getitem
    (wpAny_call_entry PyProof.Rows.slot_tuple_getitem ht.typeIs entry_tuple_getitem ?_ (args_tuple_getitem _ _)))
  show wpAny _ _ (Builtin.Tuple.tupleItemsOf (.ref t) >>= _) _ _ s
  refine wpAny_bind (tupleItemsOf_ ht ?_)
  refine wpAny_bind (wpAny_typeOf hTs ?_)
  rw [if_pos (by decide)]
  refine wpAny_bind (sliceApplied_rev hs pl pu ps ?_)
  show wpAny _ _ (if ((((items.size : Int) - 1) == 0 && (-1 : Int) == 1 && items.size == items.size)) = true then _ else _) _ _ s
  rw [if_neg (by simp), rev_pick]
  first
    | exact wpAny_bind (m := Builtin.Tuple.tupleExact _) (wpAny_newObj_type (wpAny_pure ⟨_, rfl, wpAny_pure h⟩) htake)
    | exact wpAny_bind (m := Builtin.Tuple.tupleExact _) (wpAny_newObj_type (wpAny_bind (wpAny_pure (wpAny_pure ⟨_, rfl, wpAny_pure h⟩))) htake)
    | exact wpAny_bind (wpAny_bind (m := Builtin.Tuple.tupleExact _) (wpAny_newObj_type (wpAny_pure (wpAny_pure ⟨_, rfl, wpAny_pure h⟩)) htake))
    | exact wpAny_bind (wpAny_bind (m := Builtin.Tuple.tupleExact _) (wpAny_newObj_type (wpAny_pure ⟨_, rfl, wpAny_pure h⟩) htake))
end
end HT
namespace MSR
open PySem PySem.Spec PyProof.Rows L2
/-- t[::-1] of a tuple -/
def tRevT (K : PySem.W.Frag) (te : TE) : TE := fun σ H Q => te σ H fun x H1 => ∃ a xs, x = .ref a ∧ SqT K H1 a xs ∧ ∀ p, H1 p = none → Q (.ref p) (upd H1 p (.tup xs.reverse))
theorem pe_revT {X : Cx} {e : Expr} {te : TE} {k : Nat} {p1 p2 p3 pos : Pos} (he : PE X e te) : PE X (.Subscript e (.Slice none none (some (.UnaryOp .USub (.Constant (.int 1) k p1) p2)) p3) pos) (tRevT X.K te) := by
  refine ⟨fun pins s σ H Q I h => ?_⟩
  refine PyProof.Rows.Subscript_ (thn (he.run pins s σ H _ I h) fun v s1 ⟨x, H1, I1, r1, q1⟩ => ?_)
  obtain ⟨a, xs, ex, hx, q⟩ := q1
  subst ex
  cases r1
  have hst : PO X (some (.UnaryOp .USub (.Constant (.int 1) k p1) p2)) (tPart (tUn (rU fun i => .int (-i)) (tC (.int 1)))) := po_some (pe_un un_neg pe_int)
  refine wpAny_Slice (thn (po_none.run pins s1 σ H1 (fun o H2 => o = none ∧ H2 = H1) I1 ⟨rfl, rfl⟩) fun vl s2 ⟨l, H2, I2, pl, el, e2⟩ => ?_)
  subst el e2
  refine thn (po_none.run pins s2 σ H2 (fun o H3 => o = none ∧ H3 = H2) I2 ⟨rfl, rfl⟩) fun vu s3 ⟨u, H3, I3, pu, eu, e3⟩ => ?_
  subst eu e3
  refine thn (hst.run pins s3 σ H3 (fun o H4 => o = some (-1) ∧ H4 = H3) I3 ⟨1, rfl, -1, rfl, rfl, rfl⟩) fun vs s4 ⟨o, H4, I4, ps, eo, e4⟩ => ?_
  subst eo e4
  have I5 : Inv X pins σ H4 { s4 with heap := s4.heap.push { cls := .type "slice", data := .fields #[vl, vu, vs] } } := I4.kept (t' := s4.toks) fun b ob q => Heap.get?_push_of_some _ q
  obtain ⟨its, r, ht, hz⟩ := I5.tuple hx
  have hlen := r.length
  show wpAny (model X.prog X.w) X.A (subscriptTail e (.Slice none none (some (.UnaryOp .USub (.Constant (.int 1) k p1) p2)) p3) (.ref a) (.ref s4.heap.objs.size)) (EP X pins σ Q) X.xe { s4 with heap := s4.heap.push { cls := .type "slice", data := .fields #[vl, vu, vs] } }
  refine PyProof.Rows.tail_any (ops := [.ref a, .ref s4.heap.objs.size]) ht.typeIs (PyProof.Rows.slot_tuple_getitem.lookup) ?_ (by with_unfolding_all rfl)
  refine HT.getItem_tuple_rev ht (Heap.IsSliceOf.new _ vl vu vs) pl pu ps ?_ (by rw [List.size_toArray]; omega)
  refine ⟨.ref _, _, I5.laid (t' := s4.toks) (o := .tup xs.reverse) (fun b ob q => Heap.get?_push_of_some _ q) (Nat.le_refl _) ?_, rfl, q _ (I5.hok.fresh (Nat.le_refl _))⟩
  exact ⟨by rw [List.length_reverse]; exact hz, _, r.reverse, IsTup.new _ _⟩
end MSR

set_option Elab.async false
set_option linter.all false
set_option maxRecDepth 100000
set_option maxHeartbeats 400000
set_option autoImplicit false
/-! S16: parts, reversed, attributes, stores. -/
namespace MS
open PySem L2 M

section
variable {G : G0} {X : Cx} {Wx : WX} {K : Calls} {σ : L2.St} {H H' : Hp} {W W' : Wd} {s s' : S} {e : M.Env} {pos pos' p2 : Pos} {ea eb : Expr} {a b : DE}
theorem _root_.L2.PO.imp {X : Cx} {e : Option Expr} {t t' : TO} (h : PO X e t) (f : ∀ σ H Q, t' σ H Q → t σ H Q) : PO X e t' := ⟨fun pins s σ H Q I q => h.run pins s σ H Q I (f _ _ _ q)⟩
theorem HoR.ins_ {u : HO} {c : Nat} {gs : List (Tx × M.D)} (h : HoR G W H u (.ins c gs)) : ∃ dx fs, u = .ins (G.cA c) dx fs ∧ FR G W H fs gs := by
  cases h with
  | ins h => exact ⟨_, _, rfl, h⟩
theorem o_some (he : PE X ea (tE G Wx K a)) : PO X (some ea) (tO G Wx K (some a)) := (po_some he).imp fun σ H Q ⟨W, s, e, R, ER, P⟩ => by
  simp only [evO] at P
  cases h : evE K a e s with
  | bad => rw [h] at P; exact P.elim
  | exc c s1 => refine ⟨W, s, e, R, ER, ?_⟩; rw [h] at P ⊢; exact P
  | ok d s1 =>
    refine ⟨W, s, e, R, ER, ?_⟩
    rw [h] at P ⊢
    intro W1 x H1 x1 k1 R1 v1
    cases d with
    | int i => cases v1.int_; exact ⟨i, rfl, P W1 _ H1 x1 k1 R1 rfl⟩
    | _ => exact P.elim
theorem o_none : PO X none (tO G Wx K none) := po_none.imp fun σ H Q ⟨W, s, e, R, ER, P⟩ => by
  simp only [evO] at P
  exact P.now R rfl
theorem e_slc {lo hi : Option Expr} {ml mh : Option DE} (C : XC G X Wx) (he : PE X ea (tE G Wx K a)) (hl : PO X lo (tO G Wx K ml)) (hh : PO X hi (tO G Wx K mh)) : PE X (.Subscript ea (.Slice lo hi none p2) pos) (tE G Wx K (.slc a ml mh)) :=
  (pe_slice sl_x he hl hh).imp fun σ H Q ⟨W, s, e, R, ER, P⟩ => by
    simp only [evE] at P
    refine ⟨W, s, e, R, ER, P.bind (rel1 := VR G) fun d s1 W1 x H1 x1 k1 R1 v1 P1 => ⟨W1, s1, e, R1, ER.mono x1 k1.toKeep0, ?_⟩⟩
    refine P1.bind (rel1 := fun W H (o : Option Int) (d : Option M.D) => optI d = some o) fun dl s2 W2 l H2 x2 k2 R2 v2 P2 => ⟨W2, s2, e, R2, (ER.mono x1 k1.toKeep0).mono x2 k2.toKeep0, ?_⟩
    refine P2.bind (rel1 := fun W H (o : Option Int) (d : Option M.D) => optI d = some o) fun dh s3 W3 u H3 x3 k3 R3 v3 P3 => ?_
    obtain ⟨r, hr, P4⟩ := P3.opt
    exact slc_v C.K R3 ((v1.mono x2 k2.toKeep0).mono x3 k3.toKeep0) v2 v3 hr fun W' v H' e' k' r' v' => P4 W' v H' e' k' r' v'
theorem e_rev {k : Nat} {p1 p2 p3 : Pos} (C : XC G X Wx) (he : PE X ea (tE G Wx K a)) : PE X (.Subscript ea (.Slice none none (some (.UnaryOp .USub (.Constant (.int 1) k p1) p2)) p3) pos) (tE G Wx K (.rev a)) :=
  (PE.or (pe_revL he) (MSR.pe_revT he)).imp fun σ H Q ⟨W, s, e, R, ER, P⟩ => by
    simp only [evE] at P
    by_cases ht : ∃ ds s1, evE K a e s = .ok (.tup ds) s1
    · obtain ⟨ds, s1, h⟩ := ht
      refine .inr ⟨W, s, e, R, ER, ?_⟩
      rw [h] at P ⊢
      intro W1 x H1 x1 k1 R1 v1
      cases v1 with
      | @tup p vs _ q hv =>
        refine ⟨p, vs, rfl, .inl (.inl q), fun p hp => ?_⟩
        obtain ⟨k2, r2, v2⟩ := newT R1 hp hv.reverse
        exact P W1 _ _ x1 (k1.trans x1 k2) r2 v2
    · refine .inl ⟨W, s, e, R, ER, ?_⟩
      have P' := P.bind (rel1 := VR G) (Q' := fun x H1 => ∃ a xs, x = .ref a ∧ SqL X.K H1 a xs ∧ ∀ p, H1 p = none → Q (.ref p) (upd H1 p (.lst xs.reverse)))
      cases h : evE K a e s with
      | bad => rw [h] at P; exact P.elim
      | exc c s1 => rw [h] at P; exact P
      | ok d s1 =>
        rw [h] at P
        intro W1 x H1 x1 k1 R1 v1
        have P1 : Post G (VR G) W H (optR (revD s1 d) s1) Q (wx G Wx σ) := P
        obtain ⟨r, hr, P2⟩ := P1.opt
        have hl : (lstOf s1 d).map (fun xs => M.D.lst xs.reverse) = some r := by
          rw [← hr]
          cases d <;> first | rfl | exact absurd ⟨_, _, h⟩ ht
        cases hq : lstOf s1 d with
        | none => rw [hq] at hl; cases hl
        | some xs =>
          rw [hq] at hl
          cases hl
          obtain ⟨p, vs, rfl, hr2, hv⟩ := lst_of R1 v1 hq
          refine ⟨p, vs, rfl, .inl hr2, fun q hqn => ?_⟩
          obtain ⟨e2, k2, r2, v2⟩ := newL R1 hqn hv.reverse
          exact P2 _ _ _ (x1.trans e2) (k1.trans x1 k2) r2 v2
/-- an attribute of an instance -/
theorem e_att {c : Nat} {f : Tx} (C : XC G X Wx) (hc : Cls G.K (G.cA c)) (hn : NoAttr G.K (G.cA c) (tx f)) (he : PE X ea (tE G Wx K a)) (hb : attributeBase ea (tx f) X.env (eval ea X.env) = eval ea X.env) : PE X (.Attribute ea (tx f) pos) (tE G Wx K (.att c a f)) :=
  (pe_fld he hb).imp fun σ H Q ⟨W, s, e, R, ER, P⟩ => by
    simp only [evE] at P
    refine ⟨W, s, e, R, ER, P.bind (rel1 := VR G) fun d s1 W1 x H1 x1 k1 R1 v1 P1 => ?_⟩
    obtain ⟨r, hr, P2⟩ := P1.opt
    cases hi : insOf s1 d with
    | none => rw [hi] at hr; cases hr
    | some p =>
      obtain ⟨c', fs⟩ := p
      rw [hi] at hr
      simp only [Option.bind_some] at hr
      split at hr
      · rename_i hcc
        subst hcc
        obtain ⟨q, dx, gs, rfl, hq, hf⟩ := ins_of R1 v1 hi
        obtain ⟨v, hv, vv⟩ := hf.look f hr
        rw [C.K]
        exact ⟨q, _, dx, gs, v, rfl, hq, hc, hn, hv, P2.now R1 vv⟩
      · cases hr
theorem putF_fr {f : Tx} {v : V} {d : M.D} (hv : VR G W H v d) : ∀ {fs : List (Str × V)} {gs : List (Tx × M.D)}, FR G W H fs gs → FR G W H (L2.putF (tx f) v fs) (M.putF f d gs)
  | [], [], _ => ⟨rfl, .cons hv .nil⟩
  | [], _ :: _, h => by have := h.1; simp at this
  | _ :: _, [], h => by have := h.1; simp at this
  | (x, y) :: fs, (g, z) :: gs, h => by
    obtain ⟨h1, h2⟩ := h
    simp only [List.map_cons, List.cons.injEq] at h1
    cases h2 with
    | cons h3 h4 =>
      have h5 := h1.1
      subst h5
      unfold L2.putF M.putF
      by_cases z : g = f
      · subst z
        rw [if_pos rfl, if_pos rfl]
        exact ⟨by simp only [List.map_cons]; rw [h1.2], .cons hv h4⟩
      · rw [if_neg z, if_neg fun w => z (tx_inj w)]
        obtain ⟨i1, i2⟩ := putF_fr hv ⟨h1.2, h4⟩
        exact ⟨by simp only [List.map_cons]; rw [i1], .cons h3 i2⟩
/-- a.f = value -/
theorem s_setA {c : Nat} {f : Tx} {ev : Expr} {v : DE} (C : XC G X Wx) (hc : Cls G.K (G.cA c)) (hn : NoAttr G.K (G.cA c) (tx f)) (ha : PE X ea (tE G Wx K a)) (hv : PE X ev (tE G Wx K v)) (hs : swapsWith ev (some (.Attribute ea (tx f) pos')) pos.line X.env = pure false) :
    PS X (.Assign [.Attribute ea (tx f) pos'] ev pos) (tS G Wx K (.setA c a f v)) :=
  (ps_fld ha hv hs).imp fun D σ H ⟨W, s, e, R, ER, P⟩ => by
    simp only [evS] at P
    refine ⟨W, s, e, R, ER, P.st ER (rel := VR G) fun d s1 W1 y H1 x1 k1 R1 v1 P1 => ⟨W1, s1, e, R1, ER.mono x1 k1.toKeep0, P1.st (ER.mono x1 k1.toKeep0) (rel := VR G) fun dx s2 W2 x H2 x2 k2 R2 v2 P2 => ?_⟩⟩
    cases dx with
    | rg n =>
      simp only at P2
      cases hcell : s2.cs[n]? with
      | none => rw [hcell] at P2; exact P2.elim
      | some cc =>
        obtain ⟨l, cl⟩ := cc
        cases l with
        | true => rw [hcell] at P2; exact P2.elim
        | false =>
          cases cl with
          | ins c' fs =>
            rw [hcell] at P2
            simp only at P2
            split at P2
            · rename_i h3
              obtain ⟨rfl, hm, hlen⟩ := h3
              obtain ⟨p, rfl, hp⟩ := v2.rg_
              obtain ⟨u, hu, hr, hl⟩ := R2.cellU hp hcell
              cases hr with
              | @ins _ dx gs _ hfr =>
                have hlg : gs.length = fs.length := by have := congrArg List.length hfr.1; simpa using this
                rw [C.K]
                refine ⟨p, _, dx, gs, rfl, hu, hc, hn, by omega, ?_⟩
                have vy := v1.mono x2 k2.toKeep0
                obtain ⟨k3, r3⟩ := R2.write hp hcell hu (HoR.ins hfr) (HoR.ins (c := c') (dx := dx) (putF_fr (f := f) vy hfr)) fun b hb hk => by
                  obtain ⟨dx', gs', e', hfr'⟩ := (hl b hb hk).ins_
                  cases e'
                  exact HoR.ins (c := c') (dx := dx) (putF_fr (f := f) (mayPut_low hm vy hb hk) hfr')
                exact P2 W2 _ _ (Ext.refl W2) k3 r3 (((ER.mono x1 k1.toKeep0).mono x2 k2.toKeep0).mono (Ext.refl W2) k3.toKeep0)
            · exact P2.elim
          | _ => rw [hcell] at P2; exact P2.elim
    | _ => exact P2.elim
end
end MS

set_option Elab.async false
set_option linter.all false
set_option maxRecDepth 100000
set_option maxHeartbeats 400000
set_option autoImplicit false
/-! S17: a[i] = value. -/
namespace MS
open PySem L2 M

section
variable {G : G0} {X : Cx} {Wx : WX} {K : Calls} {σ : L2.St} {H H' : Hp} {W W' : Wd} {s s' : S} {e : M.Env} {pos pos' p2 : Pos} {ea eb ev : Expr} {a b v : DE}
def rSetX : TSet := fun o i v H Q => (∃ p H', o = .ref p ∧ DPut H p i v H' ∧ Q H') ∨ rSetL o i v H Q
theorem set_x (hu : X.A.units + 1 < cLine) : PSet X rSetX := by
  intro pins s σ H o i v ov iv u Q I ro ri rv h
  rcases h with ⟨p, H', rfl, g, q⟩ | h
  · cases ro
    exact d_setItem hu I g ri rv fun s4 I4 => ⟨H', I4, q⟩
  · exact set_list pins s σ H o i v ov iv u Q I ro ri rv h
theorem HoR.dct_ {u : HO} {t : Bool} {gs : List (Ky × M.D)} (h : HoR G W H u (.dct t gs)) : (t = false ∧ ∃ kvs, u = .dK kvs ∧ KR G W H kvs gs) ∨ (t = true ∧ ∃ kvs, u = .dT kvs ∧ TR G W H kvs gs) := by
  cases h with
  | dK h => exact .inl ⟨rfl, _, rfl, h⟩
  | dT h => exact .inr ⟨rfl, _, rfl, h⟩
theorem VRs.set_low {b : Nat} {vs : List V} {ds : List M.D} (h : VRs G (W.low b) H vs ds) {v : V} {d : M.D} (hv : VR G (W.low b) H v d) (n : Nat) : VRs G (W.low b) H (vs.set n v) (ds.set n d) := VRs.set h hv n
theorem s_setI (C : XC G X Wx) (ha : PE X ea (tE G Wx K a)) (hb : PE X eb (tE G Wx K b)) (hv : PE X ev (tE G Wx K v)) (hs : swapsWithSole [.Subscript ea eb pos'] ev pos.line X.env = pure false) (hw : swappedStores [.Subscript ea eb pos'] ev X.env = pure none)
    (h1 : (assignEach [.Subscript ea eb pos'] X.env).map (·.2) = [assign (.Subscript ea eb pos') X.env])
    (h2 : ∀ v, assign (.Subscript ea eb pos') X.env v = (do
      let ov ← holding [v] (eval ea X.env)
      let iv ← holding [v, ov] (eval eb X.env)
      standAt pos'
      holding [v, ov, iv] (setItem ov iv v)
      release [v, ov, iv] [])) : PS X (.Assign [.Subscript ea eb pos'] ev pos) (tS G Wx K (.setI a b v)) :=
  (ps_asg hv (pg_sub ha hb (set_x (by have := C.hu; omega)) h2) hs hw h1).imp fun D σ H ⟨W, s, e, R, ER, P⟩ => by
    simp only [evS] at P
    refine ⟨W, s, e, R, ER, P.st ER (rel := VR G) fun d s1 W1 y H1 x1 k1 R1 v1 P1 => ⟨W1, s1, e, R1, ER.mono x1 k1.toKeep0, P1.st (ER.mono x1 k1.toKeep0) (rel := VR G) fun dx s2 W2 x H2 x2 k2 R2 v2 P2 => ⟨W2, s2, e, R2, (ER.mono x1 k1.toKeep0).mono x2 k2.toKeep0, P2.st ((ER.mono x1 k1.toKeep0).mono x2 k2.toKeep0) (rel := VR G) fun di s3 W3 z H3 x3 k3 R3 v3 P3 => ?_⟩⟩⟩
    have ER3 := ((ER.mono x1 k1.toKeep0).mono x2 k2.toKeep0).mono x3 k3.toKeep0
    have vy := (v1.mono x2 k2.toKeep0).mono x3 k3.toKeep0
    have vx := v2.mono x3 k3.toKeep0
    cases dx with
    | rg n =>
      simp only at P3
      cases hcell : s3.cs[n]? with
      | none => rw [hcell] at P3; exact P3.elim
      | some cc =>
        obtain ⟨l, cl⟩ := cc
        cases l with
        | true => rw [hcell] at P3; exact P3.elim
        | false =>
          obtain ⟨p, rfl, hp⟩ := vx.rg_
          obtain ⟨u, hu, hr, hl⟩ := R3.cellU hp hcell
          cases cl with
          | ins c' fs => rw [hcell] at P3; exact P3.elim
          | dct t kvs =>
            rw [hcell] at P3
            simp only at P3
            cases hk : keyOf t di with
            | none => rw [hk] at P3; exact P3.elim
            | some q =>
              rw [hk] at P3
              simp only at P3
              split at P3
              · rename_i cc
                rw [Bool.and_eq_true, decide_eq_true_eq] at cc
                obtain ⟨hky, hqt⟩ := keyOf_some hk
                obtain ⟨ok, e0, e1⟩ := toKy_v hky v3
                rcases hr.dct_ with ⟨rfl, ks, rfl, hkr⟩ | ⟨rfl, ks, rfl, hkr⟩
                · have hlen : ks.length = kvs.length := GR.length (f := keyK) (P := PK0) hkr
                  have hd : DPut H3 p z y (upd H3 p (.dK (L2.putK ks (keyK q) y))) := by rw [e0 hqt]; exact DPut.k hu (by rw [hlen, ← LIM_eq]; exact cc.2)
                  obtain ⟨k4, r4⟩ := R3.write hp hcell hu hr (HoR.dK (GR.put (f := keyK) (P := PK0) (inj := inj_k) ⟨hqt, ok⟩ vy hkr)) fun b hb hkb => by
                    rcases (hl b hb hkb).dct_ with ⟨_, ks', e', hkr'⟩ | ⟨e', _⟩
                    · cases e'
                      exact HoR.dK (GR.put (f := keyK) (P := PK0) (inj := inj_k) ⟨hqt, ok⟩ (mayPut_low cc.1 vy hb hkb) hkr')
                    · cases e'
                  exact .inl ⟨p, _, rfl, hd, P3 W3 _ _ (Ext.refl W3) k4 r4 (ER3.mono (Ext.refl W3) k4.toKeep0)⟩
                · have hlen : ks.length = kvs.length := GR.length (f := keyT) (P := PT0) hkr
                  obtain ⟨bq, rfl, hbq⟩ := e1 hqt
                  have hd : DPut H3 p (.ref bq) y (upd H3 p (.dT (L2.putK ks (keyT q) y))) := DPut.t hu hbq (by rw [hlen, ← LIM_eq]; exact cc.2)
                  obtain ⟨k4, r4⟩ := R3.write hp hcell hu hr (HoR.dT (GR.put (f := keyT) (P := PT0) (inj := inj_t) ⟨hqt, ok⟩ vy hkr)) fun b hb hkb => by
                    rcases (hl b hb hkb).dct_ with ⟨e', _⟩ | ⟨_, ks', e', hkr'⟩
                    · cases e'
                    · cases e'
                      exact HoR.dT (GR.put (f := keyT) (P := PT0) (inj := inj_t) ⟨hqt, ok⟩ (mayPut_low cc.1 vy hb hkb) hkr')
                  exact .inl ⟨p, _, rfl, hd, P3 W3 _ _ (Ext.refl W3) k4 r4 (ER3.mono (Ext.refl W3) k4.toKeep0)⟩
              · exact P3.elim
          | lst xs =>
            rw [hcell] at P3
            simp only at P3
            cases di with
            | int i =>
              simp only at P3
              cases hi : M.ixN xs.length i with
              | none => rw [hi] at P3; exact P3.elim
              | some j =>
                rw [hi] at P3
                simp only at P3
                split at P3
                · rename_i cc
                  obtain ⟨ws, rfl, hw⟩ := hr.lst_
                  cases v3.int_
                  obtain ⟨k4, r4⟩ := R3.write hp hcell hu hr (HoR.lst (hw.set vy j)) fun b hb hkb => by
                    obtain ⟨ws', e', hw'⟩ := (hl b hb hkb).lst_
                    cases e'
                    exact HoR.lst (hw'.set (mayPut_low cc vy hb hkb) j)
                  exact .inr ⟨p, ws, i, j, rfl, rfl, hu, by rw [hw.length]; exact hi, P3 W3 _ _ (Ext.refl W3) k4 r4 (ER3.mono (Ext.refl W3) k4.toKeep0)⟩
                · exact P3.elim
            | _ => exact P3.elim
    | _ => exact P3.elim
end
end MS

set_option Elab.async false
set_option linter.all false
set_option maxRecDepth 100000
set_option maxHeartbeats 400000
set_option autoImplicit false
/-! S18: freezing; calls. -/
namespace MS
open PySem L2 M

section
variable {G : G0} {H H' : Hp} {W W' : Wd} {s s' : S}
/-- the cells from n on are no cells any more -/
abbrev Wd.cut (W : Wd) (n : Nat) : Wd := { W with φ := W.φ.take n, Z := fun a => W.Z a ∨ a ∈ W.φ.drop n }
theorem cut_at {n k : Nat} {a : Addr} (h : W.φ[k]? = some a) : (k < n → (W.cut n).φ[k]? = some a) ∧ (n ≤ k → (W.cut n).Z a) := by
  refine ⟨fun hk => ?_, fun hk => ?_⟩
  · show (W.φ.take n)[k]? = some a
    rw [List.getElem?_take_of_lt hk]; exact h
  · refine .inr (List.mem_of_getElem? (i := k - n) ?_)
    rw [List.getElem?_drop]
    have : n + (k - n) = k := by omega
    rw [this]; exact h
theorem mapO_len {α β : Type} {f : α → Option β} : ∀ {xs : List α} {ys : List β}, mapO f xs = some ys → xs.length = ys.length
  | [], ys, h => by cases h; rfl
  | x :: xs, ys, h => by
    simp only [mapO] at h
    cases h1 : f x with
    | none => rw [h1] at h; cases h
    | some y =>
      cases h2 : mapO f xs with
      | none => rw [h1, h2] at h; cases h
      | some zs => rw [h1, h2] at h; cases h; simp [mapO_len h2]
theorem frz_ok (R : Rel G W s H) {n : Nat} : ∀ (m : Nat) (d d' : D) (v : V), frz s n m d = some d' → VR G W H v d → VR G (W.cut n) H v d' := by
  have base : Keep0 (W.cut n) H H := Keep0.refl _ _
  intro m
  induction m with
  | zero =>
    intro d d' v h hv
    cases d with
    | non => cases h; cases hv; exact .non
    | bl b => cases h; cases hv; exact .bl b
    | int i => cases h; cases hv; exact .int i
    | str x => cases h; cases hv with | str _ o => exact .str x o
    | _ => simp [frz] at h
  | succ m ih =>
    have ihs : ∀ {xs ys : List D} {vs : List V}, mapO (frz s n m) xs = some ys → VRs G W H vs xs → VRs G (W.cut n) H vs ys := by
      intro xs
      induction xs with
      | nil => intro ys vs h hv; cases h; cases hv; exact .nil
      | cons x xs ih2 =>
        intro ys vs h hv
        simp only [mapO] at h
        cases h1 : frz s n m x with
        | none => rw [h1] at h; cases h
        | some y =>
          cases h2 : mapO (frz s n m) xs with
          | none => rw [h1, h2] at h; cases h
          | some zs =>
            rw [h1, h2] at h
            cases h
            cases hv with
            | cons hv ht => exact .cons (ih _ _ _ h1 hv) (ih2 h2 ht)
    intro d d' v h hv
    cases d with
    | non => cases h; cases hv; exact .non
    | bl b => cases h; cases hv; exact .bl b
    | int i => cases h; cases hv; exact .int i
    | str x => cases h; cases hv with | str _ o => exact .str x o
    | exc c => simp [frz] at h
    | scr c => simp [frz] at h
    | tup xs =>
      simp only [frz, Option.map_eq_some_iff] at h
      obtain ⟨ys, h1, rfl⟩ := h
      cases hv with
      | tup q t => exact .tup q (ihs h1 t)
    | lst xs =>
      simp only [frz, Option.map_eq_some_iff] at h
      obtain ⟨ys, h1, rfl⟩ := h
      cases hv with
      | lst z q t => exact .lst (.inl z) q (ihs h1 t)
    | dct t ks vs =>
      simp only [frz, Option.map_eq_some_iff] at h
      obtain ⟨ys, h1, rfl⟩ := h
      cases hv with
      | dK z q t p w => exact .dK (.inl z) q t p (ihs h1 w)
      | dT z q t p w => exact .dT (.inl z) q t p (ihs h1 w)
    | ins c ns vs =>
      simp only [frz, Option.map_eq_some_iff] at h
      obtain ⟨ys, h1, rfl⟩ := h
      cases hv with
      | ins z q p w => exact .ins (.inl z) q p (ihs h1 w)
    | rg k =>
      obtain ⟨a, rfl, ha⟩ := hv.rg_
      simp only [frz] at h
      split at h
      · rename_i hk
        cases h
        exact .rg ((cut_at (n := n) ha).1 hk)
      · rename_i hk
        have hz : (W.cut n).Z a := (cut_at (n := n) ha).2 (by omega)
        cases hc : s.cs[k]? with
        | none => rw [hc] at h; cases h
        | some x =>
          obtain ⟨l, c⟩ := x
          cases l with
          | true => rw [hc] at h; cases h
          | false =>
            rw [hc] at h
            obtain ⟨u, hu, hr, _⟩ := R.cellU ha hc
            cases c with
            | lst xs =>
              simp only [Option.map_eq_some_iff] at h
              obtain ⟨ys, h1, rfl⟩ := h
              obtain ⟨vs, rfl, hvs⟩ := hr.lst_
              exact .lst hz (.inl hu) (ihs h1 hvs)
            | dct t kvs =>
              simp only [Option.map_eq_some_iff] at h
              obtain ⟨ys, h1, rfl⟩ := h
              rcases hr.dct_ with ⟨rfl, ks, rfl, hk1, hk2, hk3⟩ | ⟨rfl, ks, rfl, hk1, hk2, hk3⟩
              · refine .dK hz (.inl hu) (fun q hq => ?_) (by rw [hk2, List.map_map]; rfl) (ihs h1 hk3)
                obtain ⟨p, hp, rfl⟩ := List.mem_map.mp hq
                exact hk1 p hp
              · refine .dT hz (.inl hu) (fun q hq => ?_) (by rw [hk2, List.map_map]; rfl) (ihs h1 hk3)
                obtain ⟨p, hp, rfl⟩ := List.mem_map.mp hq
                exact hk1 p hp
            | ins c fs =>
              simp only [Option.map_eq_some_iff] at h
              obtain ⟨ys, h1, rfl⟩ := h
              obtain ⟨dx, gs, rfl, hf1, hf2⟩ := hr.ins_
              exact .ins hz hu (by rw [hf1, List.map_map]; rfl) (ihs h1 hf2)
/-- a call that will drop its cells begins -/
theorem Rel.push (R : Rel G W s H) : Rel G W ⟨s.cs.length :: s.bs, s.cs⟩ H := by
  refine ⟨R.len, R.nd, R.cell, fun b hb n a x hn h1 h2 => ?_, fun b hb => ?_, R.sep, R.zok, R.sepP, R.pok, R.sepZ⟩
  · rcases List.mem_cons.mp hb with rfl | hb
    · have e : W.low s.cs.length = W := by
        unfold Wd.low
        rw [← R.len, List.take_length]
      rw [e]
      exact R.cell n a x h1 h2
    · exact R.low b hb n a x hn h1 h2
  · rcases List.mem_cons.mp hb with rfl | hb
    · exact Nat.le_refl _
    · exact R.bsz b hb
/-- .. and ends -/
theorem Rel.drop (R : Rel G W s H) (R' : Rel G W' s' H') (e : Ext W W') (hb : s'.bs = s.cs.length :: s.bs) : Ext W (W'.cut s.cs.length) ∧ Rel G (W'.cut s.cs.length) (dropTo s s') H' := by
  obtain ⟨t, ht⟩ := e.p
  have hle : s.cs.length ≤ W'.φ.length := by rw [ht, List.length_append, R.len]; omega
  have hφ : W'.φ.take s.cs.length = W.φ := by rw [ht, ← R.len, List.take_left']; rfl
  have m1 : ∀ a, a ∈ W'.φ.take s.cs.length → a ∈ W'.φ := fun a h => List.mem_of_mem_take h
  have m2 : ∀ a, a ∈ W'.φ.drop s.cs.length → a ∈ W'.φ := fun a h => List.mem_of_mem_drop h
  have disj : ∀ a, a ∈ W'.φ.take s.cs.length → a ∈ W'.φ.drop s.cs.length → False := fun a h1 h2 => by
    have := R'.nd
    rw [← List.take_append_drop s.cs.length W'.φ, List.nodup_append] at this
    exact this.2.2 a h1 a h2 rfl
  refine ⟨⟨⟨[], by show W'.φ.take s.cs.length = W.φ ++ []; rw [hφ, List.append_nil]⟩, fun a h => .inl (e.z a h), e.q⟩, ?_⟩
  have hin : s.cs.length ∈ s'.bs := by rw [hb]; exact List.mem_cons_self
  have get : ∀ {n : Nat} {a : Addr}, (W'.φ.take s.cs.length)[n]? = some a → n < s.cs.length ∧ W'.φ[n]? = some a := fun {n a} h => by
    have hn := (List.getElem?_eq_some_iff.mp h).1
    rw [List.length_take] at hn
    have hn' : n < s.cs.length := by omega
    rw [List.getElem?_take_of_lt hn'] at h
    exact ⟨hn', h⟩
  have getc : ∀ {n : Nat} {x : CS}, n < s.cs.length → (s'.cs.take s.cs.length)[n]? = some x → s'.cs[n]? = some x := fun {n x} hn h => by
    rw [List.getElem?_take_of_lt hn] at h
    exact h
  refine ⟨?_, ?_, fun n a x h1 h2 => ?_, fun b hb' n a x hn h1 h2 => ?_, fun b hb' => ?_, fun a ha h => ?_, fun a hz => ?_, fun a ha h => R'.sepP a (m1 a ha) h, R'.pok, fun a hP h => ?_⟩
  · show (W'.φ.take s.cs.length).length = (s'.cs.take s.cs.length).length
    rw [List.length_take, List.length_take, R'.len]
  · exact R'.nd.sublist (List.take_sublist _ _)
  · obtain ⟨hn, h1'⟩ := get h1
    obtain ⟨u, q, z⟩ := R'.low _ hin n a x hn h1' (getc hn h2)
    exact ⟨u, q.mono (show Ext (W'.low s.cs.length) (W'.cut s.cs.length) from ⟨⟨[], (List.append_nil _).symm⟩, fun a h => Or.inl h, fun _ h => h⟩) (Keep0.refl _ _), z⟩
  · obtain ⟨hn2, h1'⟩ := get h1
    have hb2 : b ∈ s'.bs := by rw [hb]; exact List.mem_cons_of_mem _ hb'
    have hbl : b ≤ s.cs.length := R.bsz b hb'
    obtain ⟨u, q, z⟩ := R'.low b hb2 n a x hn h1' (getc hn2 h2)
    refine ⟨u, q.mono (show Ext (W'.low b) ((W'.cut s.cs.length).low b) from ⟨⟨[], ?_⟩, fun a h => Or.inl h, fun _ h => h⟩) (Keep0.refl _ _), z⟩
    show (W'.φ.take s.cs.length).take b = W'.φ.take b ++ []
    rw [List.append_nil, List.take_take, Nat.min_eq_left hbl]
  · have hl : (dropTo s s').cs.length = s.cs.length := by
      show (s'.cs.take s.cs.length).length = _
      rw [List.length_take, ← R'.len]; omega
    rw [hl]
    exact R.bsz b hb'
  · rcases h with h | h
    · exact R'.sep a (m1 a ha) h
    · exact disj a ha h
  · rcases hz with hz | hz
    · exact R'.zok a hz
    · obtain ⟨k, hk⟩ := List.getElem?_of_mem (m2 a hz)
      obtain ⟨x, _, c⟩ := R'.there hk
      exact c.some
  · rcases h with h | h
    · exact R'.sepZ a hP h
    · exact R'.sepP a (m2 a h) hP
/-- what a def promises -/
def spF (G : G0) (K : Calls) (f : Nat) : Sp := fun vs H Q E => ∃ W s ds, Rel G W s H ∧ VRs G W H vs ds ∧ Post G (VR G) W H (K.fn f ds s) Q (fun c H' => E (.ref (G.cA c)) none H')
theorem go_sp {K : Calls} {fz : Bool} {f : Nat} {ds : List D} {vs : List V} {Q : VK} {E : XK} (R : Rel G W s H) (hv : VRs G W H vs ds) (P : Post G (VR G) W H (K.go fz f ds s) Q (fun c H' => E (.ref (G.cA c)) none H')) : spF G K f vs H Q E := by
  cases fz with
  | false => exact ⟨W, s, ds, R, hv, P⟩
  | true =>
    refine ⟨W, ⟨s.cs.length :: s.bs, s.cs⟩, ds, R.push, hv, ?_⟩
    have P : Post G (VR G) W H (K.fnF f ds s) Q (fun c H' => E (.ref (G.cA c)) none H') := P
    unfold Calls.fnF at P
    cases h : K.fn f ds ⟨s.cs.length :: s.bs, s.cs⟩ with
    | bad => rw [h] at P; exact P.elim
    | exc c s' =>
      rw [h] at P
      simp only at P
      split at P
      · rename_i hb
        intro W' H' x' k' R'
        obtain ⟨x2, r2⟩ := R.drop R' x' hb
        exact P _ _ x2 k' r2
      · exact P.elim
    | ok d s' =>
      rw [h] at P
      simp only at P
      split at P
      · rename_i hb
        intro W' v H' x' k' R' v'
        cases hf : frz s' s.cs.length 8 d with
        | none => rw [hf] at P; exact P.elim
        | some d' =>
          rw [hf] at P
          obtain ⟨x2, r2⟩ := R.drop R' x' hb
          exact P _ _ _ x2 k' r2 (frz_ok R' 8 d d' v hf v')
      · exact P.elim
end
end MS

set_option Elab.async false
set_option linter.all false
set_option maxRecDepth 100000
set_option maxHeartbeats 400000
set_option autoImplicit false
/-! S19: calls. -/
namespace MSR
open PySem PySem.Spec PyProof.Rows L2
section
variable {X : Cx} {CX : CXT} {k : Nat} {f C : Addr} {fd : FuncData} {ps : List Str} {sp : Sp} {E : L2.St → XK} {x m : Str} {p pos apos : Pos} {e o : Expr} {es : List Expr} {ta : TE} {t : TA}
theorem pe_callS0 (F : FnOk X.prog X.w X.K X.mg X.base CX k f fd ps sp) (hr : Room k X.A) (hg : Gl X x) (hm : X.mg x = some (.ref f)) (hk : PySem.W.keepIn X.K (.ref f) = true) (hb : Binds X.K fd ps []) (hx : ∀ σ, PassesAt CX X σ (E σ))
    (hdb : (x == ("__debug__" : Str)) = false) : PE X (.Call (.Name x p) [] [] pos) (tCallS sp E tNil) := by
  refine ⟨fun pins s σ H Q I h => ?_⟩
  refine wpAny_Call_Name_kw (ld_glob I hg hm ?_ hdb)
  exact PySem.W.callWith_K0 I.kIn hk (run_fnS (us := []) F hr hb (hx σ) I .nil h)
def tMethS (C : Addr) (m : Str) (sp : Sp) (E : L2.St → XK) (ta : TE) (t : TA) : TE := fun σ H Q => ta σ H fun x H1 => ∃ a dx fs, x = .ref a ∧ H1 a = some (.ins C dx fs) ∧ fs.lookup m = none ∧
  t σ H1 fun vs H2 => sp (x :: vs) H2 Q (E σ)
theorem pe_methS {pl : Sem Bool} (he : PE X o ta) (c : Cls X.K C) (hm : Meth X.K C m f) (F : FnOk X.prog X.w X.K X.mg X.base CX k f fd ps sp) (hr : Room k X.A) (hb : Binds X.K fd ps []) (hx : ∀ σ, PassesAt CX X σ (E σ)) (ha : PA X (e :: es) t)
    (hst : starEach (e :: es) X.env = (false, eval e X.env) :: starEach es X.env) (hpl : (backTo pos (starEach es X.env)).any (·.1) = false)
    (ht : eval (.Call (.Attribute o m apos) (e :: es) [] pos) X.env = (do
      let ov ← eval o X.env
      standAt apos.atName
      let (f, first) ← holding [ov] (getMethod ov m pl)
      callWith pos f first (backTo pos (starEach (e :: es) X.env)) (backToKw pos (keywordEach [] X.env)))) :
    PE X (.Call (.Attribute o m apos) (e :: es) [] pos) (tMethS C m sp E ta t) := by
  refine ⟨fun pins s σ H Q I h => ?_⟩
  refine PySem.W.methodCall_KW (pl := pl) (thn (he.run pins s σ H _ I h) fun u s1 ⟨x, H1, I1, rx, a, dx, fs, ex, ea, l, q⟩ => ?_) ht
  subst ex
  obtain rfl : u = Value.ref a := rx
  refine getmeth_ok I1 ea c hm l ?_
  refine PySem.W.callWith_K (first := [.ref a]) (h₀ := X.base) I1.ok.mod.kin hm.kp (thn (ha.run pos pins s1 σ H1 _ I1 q) fun us s2 ⟨vs, H2, I2, r, q2⟩ => ⟨I2.kIn, ?_⟩) hst hpl
  exact run_fnS (us := .ref a :: us) (vs := .ref a :: vs) F hr hb (hx σ) I2 (.cons rfl r) q2
theorem pe_methS0 {pl : Sem Bool} (he : PE X o ta) (c : Cls X.K C) (hm : Meth X.K C m f) (F : FnOk X.prog X.w X.K X.mg X.base CX k f fd ps sp) (hr : Room k X.A) (hb : Binds X.K fd ps []) (hx : ∀ σ, PassesAt CX X σ (E σ))
    (ht : eval (.Call (.Attribute o m apos) [] [] pos) X.env = (do
      let ov ← eval o X.env
      standAt apos.atName
      let (f, first) ← holding [ov] (getMethod ov m pl)
      callWith pos f first (backTo pos (starEach [] X.env)) (backToKw pos (keywordEach [] X.env)))) :
    PE X (.Call (.Attribute o m apos) [] [] pos) (tMethS C m sp E ta tNil) := by
  refine ⟨fun pins s σ H Q I h => ?_⟩
  refine PySem.W.methodCall_KW (pl := pl) (thn (he.run pins s σ H _ I h) fun u s1 ⟨x, H1, I1, rx, a, dx, fs, ex, ea, l, q⟩ => ?_) ht
  subst ex
  obtain rfl : u = Value.ref a := rx
  refine getmeth_ok I1 ea c hm l ?_
  exact PySem.W.callWith_K0 (first := [.ref a]) I1.kIn hm.kp (run_fnS (us := [.ref a]) (vs := [.ref a]) F hr hb (hx σ) I1 (.cons rfl .nil) q)
def tMakeS (C : Addr) (sp : Sp) (E : L2.St → XK) (t : TA) : TE := fun σ H Q => t σ H fun vs H1 => ∀ x dx, H1 x = none → H1 dx = none → dx ≠ x →
  sp (.ref x :: vs) (upd (upd H1 dx (.own x)) x (.ins C dx [])) (fun v H2 => v = .non ∧ Q (.ref x) H2) (E σ)
theorem run_makeS {pins : List (Addr × Obj)} {σ : L2.St} {H : Hp} {s : Shared} {Q : VK} {us : List Value} {vs : List V} (M : Mk X.K C f) (F : FnOk X.prog X.w X.K X.mg X.base CX k f fd ps sp) (hr : Room (k + 1) X.A) (hb : Binds X.K fd ps [])
    (hx : PassesAt CX X σ (E σ)) (I : Inv X pins σ H s) (r : Vals vs us)
    (h : ∀ x dx, H x = none → H dx = none → dx ≠ x → sp (.ref x :: vs) (upd (upd H dx (.own x)) x (.ins C dx [])) (fun v H2 => v = .non ∧ Q (.ref x) H2) (E σ)) :
    wpAny (model X.prog X.w) X.A (call (.ref C) us) (EP X pins σ Q) X.xe s := by
  have hq := h (s.heap.objs.size + 1) s.heap.objs.size (I.hok.fresh (Nat.le_succ _)) (I.hok.fresh (Nat.le_refl _)) (Nat.ne_of_lt (Nat.lt_succ_self _))
  have I2 := Inv.made (C := C) I
  have r2 : Vals (V.ref (s.heap.objs.size + 1) :: vs) (Value.ref (s.heap.objs.size + 1) :: us) := .cons rfl r
  have hl : (Value.ref (s.heap.objs.size + 1) :: us ++ []).length = ps.length := by
    have e := r2.length
    rw [F.len _ _ _ _ hq] at e
    rw [List.append_nil]
    exact e.symm
  have b := hb _ (Value.ref (s.heap.objs.size + 1) :: us) I2.kIn hl
  rw [List.append_nil] at b
  refine wpAny_call (make_map (f := f) I.kIn M.makes M.init (beq_iff_eq.mp M.fn) (codeAny_mono (F.run _ X.stack _ _ ⟨Value.ref (s.heap.objs.size + 1) :: us, []⟩ (Value.ref (s.heap.objs.size + 1) :: us) _ _ (E σ) (hr.make C us [])
    (I2.env0.make C us []) b r2 hq) fun r s' hq' => ?_))
  cases r with
  | error e => exact hx pins _ _ e s' I2 hq'
  | ok fl =>
    cases fl with
    | ret u =>
      obtain ⟨v, H', I3, rv, ev, q3⟩ := I2.after hq'
      subst ev
      exact ⟨rv, ⟨V.ref (s.heap.objs.size + 1), H', I3, rfl, q3⟩⟩
    | next => exact False.elim hq'
    | brk => exact False.elim hq'
    | cont => exact False.elim hq'
theorem pe_makeS (M : Mk X.K C f) (F : FnOk X.prog X.w X.K X.mg X.base CX k f fd ps sp) (hr : Room (k + 1) X.A) (hg : Gl X x) (hm : X.mg x = some (.ref C)) (hb : Binds X.K fd ps []) (hx : ∀ σ, PassesAt CX X σ (E σ))
    (ha : PA X (e :: es) t) (hdb : (x == ("__debug__" : Str)) = false) (he : starEach (e :: es) X.env = (false, eval e X.env) :: starEach es X.env) (hpl : (backTo pos (starEach es X.env)).any (·.1) = false) :
    PE X (.Call (.Name x p) (e :: es) [] pos) (tMakeS C sp E t) := by
  refine ⟨fun pins s σ H Q I h => ?_⟩
  refine wpAny_Call_Name_kw (ld_glob I hg hm ?_ hdb)
  refine PySem.W.callWith_K (h₀ := X.base) I.ok.mod.kin M.kp (thn (ha.run pos pins s σ H _ I h) fun us s1 ⟨vs, H1, I1, r, q⟩ => ⟨I1.kIn, ?_⟩) he hpl
  exact run_makeS M F hr hb (hx σ) I1 r q
theorem pe_makeS0 (M : Mk X.K C f) (F : FnOk X.prog X.w X.K X.mg X.base CX k f fd ps sp) (hr : Room (k + 1) X.A) (hg : Gl X x) (hm : X.mg x = some (.ref C)) (hb : Binds X.K fd ps []) (hx : ∀ σ, PassesAt CX X σ (E σ))
    (hdb : (x == ("__debug__" : Str)) = false) : PE X (.Call (.Name x p) [] [] pos) (tMakeS C sp E tNil) := by
  refine ⟨fun pins s σ H Q I h => ?_⟩
  refine wpAny_Call_Name_kw (ld_glob I hg hm ?_ hdb)
  exact PySem.W.callWith_K0 I.kIn M.kp (run_makeS (us := []) M F hr hb (hx σ) I .nil h)
end
end MSR
namespace MS
open PySem L2 M
/-- the def f keeps its promise at the level k -/
structure FnP (G : G0) (X : Cx) (K : Calls) (k : Nat) (f : Nat) : Prop where
  ex : ∃ (fd : FuncData) (ps : List Str), FnOk X.prog X.w X.K X.mg X.base (L2.CX X.prog X.w) k (G.fA f) fd ps (spF G K f) ∧ Binds X.K fd ps [] ∧ PySem.W.keepIn X.K (.ref (G.fA f)) = true
section
variable {G : G0} {X : Cx} {Wx : WX} {K : Calls} {σ : L2.St} {H H' : Hp} {W W' : Wd} {s s' : S} {e : M.Env} {pos apos p : Pos} {ea eo : Expr} {a : DE} {es : List Expr} {ms : List DE} {k f c : Nat} {x : Str}
theorem FR.nil : FR G W H [] [] := ⟨rfl, .nil⟩
theorem call_rd {fz : Bool} {Q : VK} (h : tE G Wx K (.call fz f ms) σ H Q) : tCallS (spF G K f) (WE Wx) (tA G Wx K ms) σ H Q := by
  obtain ⟨W, s, e, R, ER, P⟩ := h
  simp only [evE] at P
  exact ⟨W, s, e, R, ER, P.bind (rel1 := VRs G) fun ds s1 W1 vs H1 x1 k1 R1 v1 P1 => go_sp (fz := fz) R1 v1 P1⟩
theorem e_call {fz : Bool} (C : XC G X Wx) (F : FnP G X K k f) (hr : Room k X.A) (hg : Gl X x) (hm : X.mg x = some (.ref (G.fA f))) (ha : PA X (ea :: es) (tA G Wx K ms)) (hdb : (x == ("__debug__" : Str)) = false)
    (he : starEach (ea :: es) X.env = (false, eval ea X.env) :: starEach es X.env) (hpl : (backTo pos (starEach es X.env)).any (·.1) = false) : PE X (.Call (.Name x p) (ea :: es) [] pos) (tE G Wx K (.call fz f ms)) := by
  obtain ⟨fd, ps, F, hb, hk⟩ := F.ex
  exact (pe_callS F hr hg hm hk hb (fun σ => passAt C.tk σ) ha hdb he hpl).imp fun σ H Q h => call_rd h
theorem e_call0 {fz : Bool} (C : XC G X Wx) (F : FnP G X K k f) (hr : Room k X.A) (hg : Gl X x) (hm : X.mg x = some (.ref (G.fA f))) (hdb : (x == ("__debug__" : Str)) = false) : PE X (.Call (.Name x p) [] [] pos) (tE G Wx K (.call fz f [])) := by
  obtain ⟨fd, ps, F, hb, hk⟩ := F.ex
  refine (MSR.pe_callS0 (E := WE Wx) F hr hg hm hk hb (fun σ => passAt C.tk σ) hdb).imp fun σ H Q h => ?_
  obtain ⟨W, s, e, R, ER, P⟩ := call_rd h
  simp only [evEs] at P
  exact P.now R .nil
/-- a method -/
theorem meth_rd {fz : Bool} {m : Tx} {Q : VK} (C : X.K = G.K) (h : tE G Wx K (.meth fz c f m a ms) σ H Q) : MSR.tMethS (G.cA c) (tx m) (spF G K f) (WE Wx) (tE G Wx K a) (tA G Wx K ms) σ H Q := by
  obtain ⟨W, s, e, R, ER, P⟩ := h
  simp only [evE] at P
  refine ⟨W, s, e, R, ER, P.bind (rel1 := VR G) fun d s1 W1 x H1 x1 k1 R1 v1 P1 => ?_⟩
  cases hi : insOf s1 d with
  | none => rw [hi] at P1; exact P1.elim
  | some q =>
    obtain ⟨c', fs⟩ := q
    rw [hi] at P1
    simp only at P1
    split at P1
    · rename_i h2
      obtain ⟨rfl, hl⟩ := h2
      obtain ⟨q, dx, gs, rfl, hq, hf⟩ := ins_of R1 v1 hi
      refine ⟨q, dx, gs, rfl, hq, hf.no m hl, W1, s1, e, R1, ER.mono x1 k1.toKeep0, P1.bind (rel1 := VRs G) fun ds s2 W2 vs H2 x2 k2 R2 v2 P2 => go_sp (fz := fz) R2 (.cons (v1.mono x2 k2.toKeep0) v2) P2⟩
    · exact P1.elim
theorem e_meth {fz : Bool} {m : Tx} {pl : Sem Bool} (C : XC G X Wx) (F : FnP G X K k f) (hr : Room k X.A) (he : PE X eo (tE G Wx K a)) (hc : Cls G.K (G.cA c)) (hm : Meth G.K (G.cA c) (tx m) (G.fA f)) (ha : PA X (ea :: es) (tA G Wx K ms))
    (hst : starEach (ea :: es) X.env = (false, eval ea X.env) :: starEach es X.env) (hpl : (backTo pos (starEach es X.env)).any (·.1) = false)
    (ht : eval (.Call (.Attribute eo (tx m) apos) (ea :: es) [] pos) X.env = (do
      let ov ← eval eo X.env
      standAt apos.atName
      let (f, first) ← holding [ov] (getMethod ov (tx m) pl)
      callWith pos f first (backTo pos (starEach (ea :: es) X.env)) (backToKw pos (keywordEach [] X.env)))) :
    PE X (.Call (.Attribute eo (tx m) apos) (ea :: es) [] pos) (tE G Wx K (.meth fz c f m a ms)) := by
  obtain ⟨fd, ps, F, hb, hk⟩ := F.ex
  exact (MSR.pe_methS (E := WE Wx) he (by rw [C.K]; exact hc) (by rw [C.K]; exact hm) F hr hb (fun σ => passAt C.tk σ) ha hst hpl ht).imp fun σ H Q h => meth_rd C.K h
theorem e_meth0 {fz : Bool} {m : Tx} {pl : Sem Bool} (C : XC G X Wx) (F : FnP G X K k f) (hr : Room k X.A) (he : PE X eo (tE G Wx K a)) (hc : Cls G.K (G.cA c)) (hm : Meth G.K (G.cA c) (tx m) (G.fA f))
    (ht : eval (.Call (.Attribute eo (tx m) apos) [] [] pos) X.env = (do
      let ov ← eval eo X.env
      standAt apos.atName
      let (f, first) ← holding [ov] (getMethod ov (tx m) pl)
      callWith pos f first (backTo pos (starEach [] X.env)) (backToKw pos (keywordEach [] X.env)))) :
    PE X (.Call (.Attribute eo (tx m) apos) [] [] pos) (tE G Wx K (.meth fz c f m a [])) := by
  obtain ⟨fd, ps, F, hb, hk⟩ := F.ex
  refine (MSR.pe_methS0 (E := WE Wx) he (by rw [C.K]; exact hc) (by rw [C.K]; exact hm) F hr hb (fun σ => passAt C.tk σ) ht).imp fun σ H Q h => ?_
  obtain ⟨W, s, e, R, ER, P⟩ := meth_rd C.K h
  refine ⟨W, s, e, R, ER, P.mono (fun v H1 h1 => ?_) fun _ _ z => z⟩
  obtain ⟨a, dx, fs, e1, e2, e3, W1, s1, e4, R1, ER1, P1⟩ := h1
  simp only [evEs] at P1
  exact ⟨a, dx, fs, e1, e2, e3, P1.now R1 .nil⟩
/-- an instance is made -/
theorem Rel.own (R : Rel G W s H) {dx : Addr} {x : Addr} (hx : H dx = none) : Keeps W H (upd H dx (.own x)) ∧ Rel G W s (upd H dx (.own x)) := ⟨Keeps.new hx, R.step (upd_keep hx)⟩
theorem make_rd {Q : VK} (h : tE G Wx K (.make c f ms) σ H Q) : MSR.tMakeS (G.cA c) (spF G K f) (WE Wx) (tA G Wx K ms) σ H Q := by
  obtain ⟨W, s, e, R, ER, P⟩ := h
  simp only [evE] at P
  refine ⟨W, s, e, R, ER, P.bind (rel1 := VRs G) fun ds s1 W1 vs H1 x1 k1 R1 v1 P1 => ?_⟩
  intro x dx hx hdx hne
  obtain ⟨k2, R2⟩ := R1.own (x := x) hdx
  have hx2 : (upd H1 dx (.own x)) x = none := by rw [upd_ne (Ne.symm hne)]; exact hx
  obtain ⟨x3, k3, R3, v3⟩ := R2.newC (o := .ins (G.cA c) dx []) (c := .ins c []) hx2 (HoR.ins FR.nil)
  have k23 := k2.trans (Ext.refl W1) k3
  refine ⟨_, _, _, R3, .cons v3 (v1.mono x3 k23.toKeep0), ?_⟩
  refine (P1.rebase x3 k23).bind (rel1 := VR G) fun d s4 W4 v H4 x4 k4 R4 v4 P4 => ?_
  cases d with
  | non =>
    refine ⟨v4.non_, ?_⟩
    exact Post.now P4 R4 (v3.mono x4 k4.toKeep0)
  | _ => exact P4.elim
theorem e_make (C : XC G X Wx) (F : FnP G X K k f) (hr : Room (k + 1) X.A) (M : Mk G.K (G.cA c) (G.fA f)) (hg : Gl X x) (hm : X.mg x = some (.ref (G.cA c))) (ha : PA X (ea :: es) (tA G Wx K ms)) (hdb : (x == ("__debug__" : Str)) = false)
    (he : starEach (ea :: es) X.env = (false, eval ea X.env) :: starEach es X.env) (hpl : (backTo pos (starEach es X.env)).any (·.1) = false) : PE X (.Call (.Name x p) (ea :: es) [] pos) (tE G Wx K (.make c f ms)) := by
  obtain ⟨fd, ps, F, hb, hk⟩ := F.ex
  exact (MSR.pe_makeS (E := WE Wx) (by rw [C.K]; exact M) F hr hg hm hb (fun σ => passAt C.tk σ) ha hdb he hpl).imp fun σ H Q h => make_rd h
theorem e_make0 (C : XC G X Wx) (F : FnP G X K k f) (hr : Room (k + 1) X.A) (M : Mk G.K (G.cA c) (G.fA f)) (hg : Gl X x) (hm : X.mg x = some (.ref (G.cA c))) (hdb : (x == ("__debug__" : Str)) = false) : PE X (.Call (.Name x p) [] [] pos) (tE G Wx K (.make c f [])) := by
  obtain ⟨fd, ps, F, hb, hk⟩ := F.ex
  refine (MSR.pe_makeS0 (E := WE Wx) (by rw [C.K]; exact M) F hr hg hm hb (fun σ => passAt C.tk σ) hdb).imp fun σ H Q h => ?_
  obtain ⟨W, s, e, R, ER, P⟩ := make_rd h
  simp only [evEs] at P
  exact P.now R .nil
end
end MS

set_option Elab.async false
set_option linter.all false
set_option maxRecDepth 100000
set_option maxHeartbeats 400000
set_option autoImplicit false
/-! S20: a def keeps its promise; raise; try. -/
namespace MS
open PySem L2 M

section
variable {G : G0} {X : Cx} {Wx : WX} {K : Calls} {σ : L2.St} {H H' : Hp} {W W' : Wd} {s s' : S} {e : M.Env}
theorem start_rel {vs : List V} {ds : List D} (h : VRs G W H vs ds) (N : List Str) : EnvR G W H (L2.start N vs) (ds.map some ++ List.replicate (N.length - ds.length) none) := by
  have hl := h.length
  refine ⟨by unfold L2.start; simp [hl], fun i d hi => ?_⟩
  unfold L2.start
  by_cases hlt : i < ds.length
  · rw [List.getElem?_append_left (by simpa using hlt), List.getElem?_map] at hi
    cases hd : ds[i]? with
    | none => rw [hd] at hi; cases hi
    | some d' =>
      rw [hd] at hi
      cases hi
      obtain ⟨v, hv, r⟩ := h.get hd
      exact ⟨v, by rw [List.getElem?_append_left (by simp [hl]; exact hlt), List.getElem?_map, hv]; rfl, r⟩
  · rw [List.getElem?_append_right (by simp; omega)] at hi
    have := List.mem_of_getElem? hi
    rw [List.mem_replicate] at this
    exact absurd this.2 (by simp)
/-- a body behind its arguments -/
theorem body_rd {T : Nat → Option FD} {n f : Nat} {fd : FD} (hT : T f = some fd) {N : List Str} (hN : fd.nl = N.length) {vs : List V} {Q : VK} {E : XK} (h : spF G (KF T (n + 1)) f vs H Q E) :
    vs.length = fd.np ∧ tSs G (fun cls d _ H => E cls d H) (KF T n) fd.body { nx := fun _ H' => Q .non H', rt := Q } (L2.start N vs) H := by
  obtain ⟨W, s, ds, R, hv, P⟩ := h
  have P : Post G (VR G) W H (runF T (n + 1) f ds s) Q (fun c H' => E (.ref (G.cA c)) none H') := P
  simp only [runF, hT] at P
  split at P
  · rename_i hl
    refine ⟨by rw [hv.length]; exact hl, W, s, _, R, start_rel hv N, ?_⟩
    rw [← hN, hl]
    cases hb : evSs ⟨runF T n⟩ fd.body (ds.map some ++ List.replicate (fd.nl - fd.np) none) s with
    | bad => rw [hb] at P; exact P.elim
    | exc c e' s' => rw [hb] at P; exact fun W' σ' H' x' k' R' _ => P W' H' x' k' R'
    | nx e' s' => rw [hb] at P; exact fun W' σ' H' x' k' R' _ => P W' _ H' x' k' R' .non
    | rt d s' => rw [hb] at P; exact fun W' v H' x' k' R' v' => P W' v H' x' k' R' v'
  · exact P.elim
theorem fn_zero {T : Nat → Option FD} {P : Program} {w : World} {mg : Str → Option Value} {base : Heap} {f : Nat} {fd : FuncData} {ps : List Str} {a : Addr} : FnOk P w G.K mg base (L2.CX P w) 0 a fd ps (spF G (KF T 0) f) :=
  ⟨fun vs H Q E ⟨_, _, _, _, _, P⟩ => P.elim, fun A outer s H args us vs Q E _ _ _ _ ⟨_, _, _, _, _, P⟩ => P.elim⟩
theorem fn_succ {T : Nat → Option FD} {P : Program} {w : World} {mg : Str → Option Value} {base : Heap} {n k f : Nat} {x qual : Str} {st : Stmt} {a : Addr} {fd : FuncData} {N ps : List Str} {m : FD} (hT : T f = some m) (hN : m.nl = N.length) (hp : m.np = ps.length)
    (F : Fun G.K x qual st a fd) (Sc : FnScope N ps (defScope st))
    (hb : ∀ (cdv : Value) (A : Around) (outer : List PySem.Env) (s : Shared) (H : Hp) (E : XK), Room (k + 1) (A.deeper (PyProof.Rows.envOfC qual (defScope st) s.heap.objs.size a cdv)) →
      PSs (cxOf (L2.CX P w) P w G.K mg base N qual (defScope st) a cdv A outer s H E) (defBody st) (tSs G (fun cls d _ H => E cls d H) (KF T n) m.body)) :
    FnOk P w G.K mg base (L2.CX P w) (k + 2) a fd ps (spF G (KF T (n + 1)) f) :=
  F.okX Sc (fun vs H Q E h => by rw [← hp]; exact (body_rd hT hN h).1) fun cdv A outer s H vs Q E hr h => ⟨_, hb cdv A outer s H E hr, (body_rd hT hN h).2⟩
/-- what stands fast in a def's body -/
theorem xc_of {P : Program} {w : World} {mg : Str → Option Value} {base : Heap} {k : Nat} {N : List Str} {qual : Str} {sc : Scope} {a : Addr} {cdv : Value} {A : Around} {outer : List PySem.Env} {s : Shared} {H : Hp} {E : XK} (hr : Room k (A.deeper (PyProof.Rows.envOfC qual sc s.heap.objs.size a cdv))) (nd : N.Nodup) :
    XC G (cxOf (L2.CX P w) P w G.K mg base N qual sc a cdv A outer s H E) (fun cls d _ H => E cls d H) :=
  ⟨rfl, takes_of rfl rfl rfl rfl, nd, rfl, by have := hr.un; show _ + 65 < _; have e : (cxOf (L2.CX P w) P w G.K mg base N qual sc a cdv A outer s H E).A = A.deeper (PyProof.Rows.envOfC qual sc s.heap.objs.size a cdv) := rfl; rw [e]; omega⟩
theorem own_of {P : Program} {w : World} {mg : Str → Option Value} {base : Heap} {N : List Str} {qual : Str} {sc : Scope} {a : Addr} {cdv : Value} {A : Around} {outer : List PySem.Env} {s : Shared} {H : Hp} {E : XK} :
    PassesOwn (model (cxOf (L2.CX P w) P w G.K mg base N qual sc a cdv A outer s H E).prog (cxOf (L2.CX P w) P w G.K mg base N qual sc a cdv A outer s H E).w) (cxOf (L2.CX P w) P w G.K mg base N qual sc a cdv A outer s H E).A (cxOf (L2.CX P w) P w G.K mg base N qual sc a cdv A outer s H E).env (cxOf (L2.CX P w) P w G.K mg base N qual sc a cdv A outer s H E).xe := passes_of rfl
/-! ### raise -/
theorem s_raise {c : Nat} {ex : Expr} {pos : Pos} (C : XC G X Wx) (he : PMk X ex (fun _ H Q => Q (.ref (G.cA c)) none H)) : PS X (.Raise (some ex) none pos) (tS G Wx K (.rais c)) :=
  (ps_raise C.calm C.tk he).imp fun D σ H ⟨W, s, e, R, ER, P⟩ => by
    simp only [evS] at P
    exact P W σ H (Ext.refl W) (Keeps.refl W H) R ER
end
end MS

set_option Elab.async false
set_option linter.all false
set_option maxRecDepth 100000
set_option maxHeartbeats 400000
set_option autoImplicit false
/-! S21: try .. except X as e, the caught error kept in sight. -/
namespace MSR
open PySem PySem.Spec PyProof.Rows L2
theorem excO_ok {P : Program} {w : World} {H : Hp} {h : Heap} {C a : Addr} {oe : Obj} {vs : Array Value} (e : h.get? a = some oe) (z : oe.cls = .ref C) (z2 : oe.dict = none) (d : oe.data = .fields vs) : ObjOk P w H h a (MS.ExcO C a) :=
  ⟨⟨oe, vs, e, z, z2, d⟩, ⟨oe, e⟩, fun _ _ ⟨o, v, q, r⟩ k => ⟨o, v, k o q, r⟩⟩
section
variable {X : Cx} {pins : List (Addr × Obj)} {σ : L2.St} {H : Hp} {s sI : Shared}
/-- an object that came up behind sI is kept in sight from now on -/
theorem track {a : Addr} {o : HO} (I : Inv X pins σ H sI) (J : Inv X pins σ H s) (hx : X.ex = []) (hn : sI.heap.get? a = none) (na : H a = none) (new : ObjOk X.prog X.w (upd H a o) s.heap a o) : Inv X pins σ (upd H a o) s := by
  have ne0 : ∀ b u, X.s_0.heap.get? b = some u → b ≠ a := fun b u e z => by
    obtain ⟨u', q⟩ := I.base.there b u e (by rw [hx]; simp)
    rw [z, hn] at q
    cases q
  have neI : ∀ b u, sI.heap.get? b = some u → b ≠ a := fun b u e z => by
    rw [z, hn] at e
    cases e
  have neH : ∀ b u, H b = some u → b ≠ a := fun b u e z => by
    rw [z, na] at e
    cases e
  obtain ⟨m, ⟨oL, es, ep, hoL, rL⟩, _⟩ := id I.loc
  refine ⟨J.ok, J.os, J.bare, ⟨J.base.keep, J.base.slot, fun b u e n hb => ?_, J.base.there, fun b xs e => ?_, fun b u w e => ?_, fun b ps e => ?_⟩, J.loc, J.cell, ?_, fun x c e => ?_, fun p hp => ?_, fun b u e => ?_, J.len⟩
  · rw [upd_ne (ne0 b u e)]
    exact J.base.free b u e n hb
  · have q := J.base.tups b xs e
    rw [upd_ne (neH b _ q)]
    exact q
  · have q := J.base.frzs b u w e
    rw [upd_ne (neH b _ q)]
    exact q
  · obtain ⟨more, q⟩ := J.base.tbls b ps e
    exact ⟨more, by rw [upd_ne (neH b _ q)]; exact q⟩
  · rw [upd_ne (neI _ _ hoL)]
    exact J.free
  · obtain ⟨v, oc, hc, _⟩ := I.cell x c e
    rw [upd_ne (neI _ _ hc)]
    exact J.freeC x c e
  · obtain ⟨e, n, r⟩ := J.pin p hp
    refine ⟨e, ?_, r⟩
    rw [upd_ne (neI _ _ (I.pin p hp).1)]
    exact n
  · by_cases hb : b = a
    · subst hb
      rw [upd_same] at e
      cases e
      exact new
    · rw [upd_ne hb] at e
      exact (J.hok b u e).stay (fun c v _ q => q) (fun c q => by rw [upd_ne (ne_of_none q na)]; exact q) fun c xs q => by rw [upd_ne (ne_of_none q na)]; exact q
theorem toSuite (I : Inv X pins σ H s) (a : Addr) : Inv (X.suite a (X.pn ++ pins)) [] σ H s :=
  ⟨I.ok.suite _ _, I.os, I.bare, I.base, I.loc, I.cell, I.free, I.freeC, fun p hp => I.pin p (by rw [List.append_nil] at hp; exact hp), I.hok, I.len⟩
theorem ofSuite {a : Addr} {pn' : List (Addr × Obj)} (I : Inv (X.suite a (X.pn ++ pins)) pn' σ H s) (ok : X.Ok) : Inv X pins σ H s :=
  ⟨ok, I.os, I.bare, I.base, I.loc, I.cell, I.free, I.freeC, fun p hp => I.pin p (List.mem_append_left _ hp), I.hok, I.len⟩
end
/-- what the clause 'except x as n' wishes of an exception of the body: slot i is n's -/
def wAsT (K : PySem.W.Frag) (c : Value) (i : Nat) (ts : TS) (D : Ends) : WX := fun cls d σ H => PySem.W.exmOne K cls c = some true ∧ d = none ∧ ∃ C, cls = .ref C ∧
  ∀ a, H a = none → ts { nx := fun σ' H' => D.nx (σ'.set i none) H', rt := D.rt, bk := fun σ' H' => D.bk (σ'.set i none) H', ct := fun σ' H' => D.ct (σ'.set i none) H' } (σ.set i (some (.ref a))) (upd H a (MS.ExcO C a))
section
variable {X : Cx} {x n : Str} {c : Value} {i : Nat} {body suite : List Stmt} {b₀ : Stmt} {np pos pos' : Pos} {tb : WX → TS} {ts : TS}
theorem ps_try_asT (hs : X.stack = X.env :: X.outer) (hf : X.env.frame = some X.env.locals) (hex : X.ex = []) (hN : X.N.Nodup) (hi : X.N[i]? = some n) (hln : X.env.kindOf n = some .local) (hc : Names X x c)
    (hb : ∀ (W : WX) (pn : List (Addr × Obj)) (xe : Value → Shared → Prop), Takes (X.tr pn xe) W → PassesOwn (model X.prog X.w) X.A X.env xe → PSs (X.tr pn xe) body (tb W))
    (hsu : ∀ (a : Addr) (pn : List (Addr × Obj)), PSs (X.suite a pn) (b₀ :: suite) ts) :
    PS X (.Try body [.ExceptHandler (some (.Name x np)) (some n) (b₀ :: suite) pos'] [] [] pos) (fun D σ H => tb (wAsT X.K c i ts D) D σ H) := by
  refine ⟨fun pins s σ H D I h => ?_⟩
  have ok := I.ok
  have hfr : X.A.frames = some (X.env :: X.outer) := by rw [ok.frames, hs]
  have hloc : Loc X.env.scope n := .inl hln
  refine wpAny_Try_except ?_
  refine wpAny_mono ((hb (wAsT X.K c i ts D) (X.pn ++ pins) (fun e s₁ => wpAny (model X.prog X.w) X.A (noteFrame e X.env) (fun _ s₂ => wpAny (model X.prog X.w) X.A (setFlight e none) (fun _ s₃ =>
    wpAny (model X.prog X.w) X.A (handleBy e X.env [.ExceptHandler (some (.Name x np)) (some n) (b₀ :: suite) pos']) (SP X pins D) X.xe s₃) X.xe s₂) X.xe s₁) (fun u s' xx => ?_) PassesOwn.looking).run [] s σ H D (I.toTry _) h) (fun f s1 hsp => ?_) (fun e s1 he => he)
  · obtain ⟨a, B, sI, pins', σ', H', cls, d, rfl, J', nb, up, sky, na, os, ag, hb1, rfl, C, rfl, hyes⟩ := xx
    have J : Inv X pins σ' H' sI := J'.ofTry ok
    have sky' : Sky B (X.env :: X.outer) a (Zc (.ref C) none) X.env.locals s'.heap := by rw [← hs]; exact sky
    show wpAny (model X.prog X.w) X.A (noteFrame (.ref a) X.env) _ _ _
    refine Sky.land Zc.steady hfr hf sky' fun h3 fl3 up3 => ?_
    have J3 : Inv X pins σ' H' { s' with heap := h3 } := J.landed nb fl3.1 (up.trans up3) os ag
    obtain ⟨oe3, vs3, he3, hz3, hd3⟩ := fl3.there
    have nfr : a ∉ frs (X.env :: X.outer) := fun hm => by
      obtain ⟨_, o', e', hnf⟩ := fl3.2.2.1.mem hm
      rw [he3] at e'; cases e'
      exact hnf _ hd3
    have newI : sI.heap.get? a = none := by
      cases e : sI.heap.get? a with
      | none => rfl
      | some o =>
        have q := nb a o e (by show a ∉ frs X.stack; rw [hs]; exact nfr)
        rw [fl3.2.1] at q
        cases q
    have S3 := toSuite J3 a
    refine wpAny_handleBy_cons (codeAny_handlers_test ?_) (by intro q; cases q)
    have LT : PySem.W.Looks (model X.prog X.w) h3 (typeOf (.ref a)) (.ref C) := fun A Q E s k q => wpAny_typeOf_ref (k _ _ he3) (by rw [hz3.1]; exact q)
    have LM := PySem.W.exm_one (M := model X.prog X.w) (J3.kIn) LT hb1
    have test : ∀ {Q : Value → Shared → Prop} {E : Value → Shared → Prop}, Q c { s' with heap := h3 } → wpAny (model X.prog X.w) (X.A.mark (some (.ref a))) (eval (.Name x np) X.env) Q E { s' with heap := h3 } := fun {Q E} q => by
      obtain ⟨hg, hdbg, hm | ⟨hm, hv, hnn⟩⟩ := hc
      · exact ld_glob (X := X.suite a (X.pn ++ pins)) S3 hg hm q hdbg
      · exact ld_blt (X := X.suite a (X.pn ++ pins)) S3 hg hm hv q hnn hdbg
    refine test (LM.here ?_)
    refine codeAny_handlers_suite_as ?_
    refine HandSPX.lands_againZ fl3 fun h4 fl4 up4 => ?_
    have J4 : Inv X pins σ' H' { s' with heap := h4 } := J.landed nb fl4.1 ((up.trans up3).trans up4) os ag
    obtain ⟨oe4, vs4, he4, hz4, hd4⟩ := fl4.there
    have J5 : Inv X pins σ' (upd H' a (MS.ExcO C a)) { s' with heap := h4 } := track J J4 hex newI na (excO_ok he4 hz4.1 hz4.2 hd4)
    refine store_ok (X := X.suite a (X.pn ++ pins)) (v := .ref a) (toSuite J5 a) hN hi hloc rfl (fun s5 S5 => ?_) (.inr hln)
    refine wpAny_mono ((hsu a (X.pn ++ pins)).run [] s5 _ _ _ S5 (hyes a na)) (fun f s6 hsp => ?_) (fun _ _ z => False.elim z)
    have end_ : ∀ {σ6 : L2.St} {H6 : Hp} {Q : Shared → Prop}, Inv (X.suite a (X.pn ++ pins)) [] σ6 H6 s6 → (∀ s7, Inv X pins (σ6.set i none) H6 s7 → Q s7) →
        wpAny (model X.prog X.w) X.A (do bindName X.env n .none; unbindBehindTheSuite X.env n pos') (fun _ s7 => Q s7) X.xe s6 := fun {σ6 H6 Q} S6 hq => gone_ok (ofSuite S6 ok) hN hi hln hq
    cases f with
    | next =>
      obtain ⟨σ6, H6, S6, q6⟩ := hsp
      exact end_ S6 fun s7 J7 => ⟨_, _, J7, q6⟩
    | brk =>
      obtain ⟨σ6, H6, S6, q6⟩ := hsp
      exact end_ S6 fun s7 J7 => ⟨_, _, J7, q6⟩
    | cont =>
      obtain ⟨σ6, H6, S6, q6⟩ := hsp
      exact end_ S6 fun s7 J7 => ⟨_, _, J7, q6⟩
    | ret u =>
      obtain ⟨v6, σ6, H6, S6, r6, q6⟩ := hsp
      exact end_ S6 fun s7 J7 => ⟨_, _, _, J7, r6, q6⟩
  · cases f with
    | next =>
      obtain ⟨σ', H', J', q⟩ := hsp
      exact wpAny_execs_nil ⟨σ', H', J'.ofTry ok, q⟩
    | brk =>
      obtain ⟨σ', H', J', q⟩ := hsp
      exact ⟨σ', H', J'.ofTry ok, q⟩
    | cont =>
      obtain ⟨σ', H', J', q⟩ := hsp
      exact ⟨σ', H', J'.ofTry ok, q⟩
    | ret u =>
      obtain ⟨v, σ', H', J', r, q⟩ := hsp
      exact ⟨v, σ', H', J'.ofTry ok, r, q⟩
end
end MSR
namespace MS
open PySem L2 M
section
variable {G : G0} {X : Cx} {Wx : WX} {K : Calls} {σ : L2.St} {H H' : Hp} {W W' : Wd} {s s' : S} {e : M.Env}
theorem XC.tr (C : XC G X Wx) {W : WX} {pn : List (Addr × Obj)} {xe : Value → Shared → Prop} (tk : Takes (X.tr pn xe) W) : XC G (X.tr pn xe) W := ⟨C.K, tk, C.nd, C.calm, C.hu⟩
/-- try: .. except BagError as e: .. -/
theorem s_tryAs {i : Nat} {x n : Str} {cv : Value} {body suite : List Stmt} {b₀ : Stmt} {np pos pos' : Pos} {mb ms : List DS} (C : XC G X Wx) (hs : X.stack = X.env :: X.outer) (hf : X.env.frame = some X.env.locals) (hex : X.ex = []) (hi : X.N[i]? = some n) (hln : X.env.kindOf n = some .local) (hc : Names X x cv)
    (hx : ∀ c, c < 16 → PySem.W.exmOne G.K (.ref (G.cA c)) cv = some true)
    (hb : ∀ (W : WX) (pn : List (Addr × Obj)) (xe : Value → Shared → Prop), Takes (X.tr pn xe) W → PassesOwn (model X.prog X.w) X.A X.env xe → PSs (X.tr pn xe) body (tSs G W K mb))
    (hsu : ∀ (a : Addr) (pn : List (Addr × Obj)), PSs (X.suite a pn) (b₀ :: suite) (tSs G W0 K ms)) :
    PS X (.Try body [.ExceptHandler (some (.Name x np)) (some n) (b₀ :: suite) pos'] [] [] pos) (tS G Wx K (.tryE mb (some i) ms)) :=
  (MSR.ps_try_asT (tb := fun W => tSs G W K mb) hs hf hex C.nd hi hln hc hb hsu).imp fun D σ H ⟨W, s, e, R, ER, P⟩ => by
    simp only [evS] at P
    refine ⟨W, s, e, R, ER, ?_⟩
    cases hbd : evSs K mb e s with
    | bad => rw [hbd] at P; exact P.elim
    | nx e' s' => rw [hbd] at P; exact P
    | rt d s' => rw [hbd] at P; exact P
    | exc c e' s' =>
      rw [hbd] at P
      simp only at P
      split at P
      · rename_i hc16
        split at P
        · rename_i hil
          intro W1 σ1 H1 x1 k1 R1 ER1
          refine ⟨by rw [C.K]; exact hx c hc16, rfl, _, rfl, fun a ha => ?_⟩
          obtain ⟨x2, k2, R2⟩ := R1.newZ ha (ExcO (G.cA c) a)
          have v2 : VR G (W1.addZ a) (upd H1 a (ExcO (G.cA c) a)) (.ref a) (.exc c) := .exc (.inr rfl) upd_same
          refine ⟨_, s', _, R2, (ER1.mono x2 k2.toKeep0).put v2, ?_⟩
          have x12 := x1.trans x2
          have k12 := k1.trans x1 k2
          cases hsu : evSs K ms (e'.set i (some (.exc c))) s' with
          | bad => rw [hsu] at P; exact P.elim
          | exc c2 e2 s2 => rw [hsu] at P; exact P.elim
          | rt d2 s2 => rw [hsu] at P; exact P.rebase x12 k12
          | nx e2 s2 =>
            rw [hsu] at P
            exact fun W3 σ3 H3 x3 k3 R3 ER3 => P W3 _ H3 (x12.trans x3) (k12.trans x12 k3) R3 ER3.del
        · exact P.elim
      · exact P.elim
/-- x = e in such a suite -/
theorem s_setN {i : Nat} {x : Str} {ex : Expr} {a : DE} {pos pos' : Pos} (nd : X.N.Nodup) (hi : X.N[i]? = some x) (hx : Loc X.env.scope x) (he : PE X ex (tE G Wx K a)) (hs : swapsWith ex (some (.Name x pos')) pos.line X.env = pure false) (hf : X.fn x = true ∨ X.env.scope.names.lookup x = some .local) :
    PS X (.Assign [.Name x pos'] ex pos) (tS G Wx K (.set i a)) := (ps_set nd hi hx he hs hf).imp fun D σ H h => set_rd h
end
end MS

set_option Elab.async false
set_option linter.all false
set_option maxRecDepth 100000
set_option maxHeartbeats 400000
set_option autoImplicit false
/-! S22: isinstance; built-ins called; methods of built-in types. -/
namespace MSR
open PySem PySem.Spec PyProof.Rows L2
def rIsT (K : PySem.W.Frag) : List V → Hp → VK → Prop := fun xs H Q => ∃ (a D : Addr) (c : V) (cv : Value) (b : Bool), xs = [.ref a, c] ∧ H a = some (MS.ExcO D a) ∧ ExcC K D ∧ (∀ u, RelV c u → u = cv) ∧ PySem.W.kitOne K (.ref D) cv = some b ∧ Q (.bl b) H
theorem call_isT {X : Cx} : CallR X (.builtin "isinstance") (rIsT X.K) := by
  intro pins s σ H xs us Q I r h
  obtain ⟨a, D, c, cv, b, rfl, ha, C, hcv, e, q⟩ := h
  cases r with
  | cons rx rr =>
    cases rr with
    | cons rt rr =>
      cases rr
      cases rx
      have ec := hcv _ rt
      subst ec
      obtain ⟨⟨oe, vs, hget, h1, h2, hv⟩, _, _⟩ := I.hok a _ ha
      have J : PySem.W.InstAt s.heap a oe D none := by
        obtain ⟨oc, od, oda, osl⟩ := oe
        dsimp only at h1 h2 hv
        subst h1 h2 hv
        exact ⟨hget, rfl, rfl, trivial⟩
      exact PySem.W.kia_one (PySem.W.handS_kitx_exc C.hg C.hk C.hs C.hd C.ha C.hn C.ht C.hm) I.kIn J e (fun z => nomatch z) fun tk => ⟨.bl b, H, I.kept (t' := tk) fun _ _ z => z, rfl, q⟩
end MSR
namespace MS
open PySem L2 M
section
variable {G : G0} {X : Cx} {Wx : WX} {K : Calls} {σ : L2.St} {H H' : Hp} {W W' : Wd} {s s' : S} {e : M.Env} {p pos apos : Pos} {ea eo : Expr} {a : DE} {es : List Expr} {ms : List DE} {x : Str}
/-- isinstance(a, C) -/
theorem e_isI {p2 : Pos} {cx : Str} {c : Option Nat} {cv : V} {cu : Value} (C : XC G X Wx) (hg : Gl X "isinstance") (hm : X.mg "isinstance" = none) (ha : PE X ea (tE G Wx K a)) (hcv : PE X (.Name cx p2) (tC cv)) (hu : ∀ u, RelV cv u → u = cu)
    (hE : ∀ k, k < 16 → ExcC G.K (G.cA k)) (hk : ∀ k, k < 16 → PySem.W.kitOne G.K (.ref (G.cA k)) cu = some (match c with | some c => decide (c = k) | none => true))
    (he : starEach [ea, .Name cx p2] X.env = (false, eval ea X.env) :: starEach [.Name cx p2] X.env) (he2 : starEach [.Name cx p2] X.env = (false, eval (.Name cx p2) X.env) :: starEach [] X.env) (hpl : (backTo pos (starEach [.Name cx p2] X.env)).any (·.1) = false) :
    PE X (.Call (.Name "isinstance" p) [ea, .Name cx p2] [] pos) (tE G Wx K (.isI c a)) :=
  (pe_callB MSR.call_isT hg hm PyProof.Rows.boot_isinstance (pa_cons ha (pa_cons hcv pa_nil he2) he) (by decide) (by decide) he hpl).imp fun σ H Q ⟨W, s, e, R, ER, P⟩ => by
    simp only [evE] at P
    refine ⟨W, s, e, R, ER, P.bind (rel1 := VR G) fun d s1 W1 v H1 x1 k1 R1 v1 P1 => ?_⟩
    cases d with
    | exc k =>
      simp only at P1
      split at P1
      · rename_i hk16
        cases v1 with
        | @exc q _ z h =>
          refine ⟨q, G.cA k, cv, cu, _, rfl, h, by rw [C.K]; exact hE k hk16, hu, by rw [C.K]; exact hk k hk16, ?_⟩
          exact Post.now P1 R1 (.bl _)
      · exact P1.elim
    | _ => exact P1.elim
/-! ### built-ins called -/
theorem bi_rd {b : BI} {Q : VK} (h : tE G Wx K (.bi b ms) σ H Q) : tCB (rL G fun s ds => callB s b ds) (tA G Wx K ms) σ H Q := by
  obtain ⟨W, s, e, R, ER, P⟩ := h
  simp only [evE] at P
  refine ⟨W, s, e, R, ER, P.bind (rel1 := VRs G) fun ds s1 W1 vs H1 x1 k1 R1 v1 P1 => ?_⟩
  obtain ⟨r, hr, P2⟩ := P1.opt
  exact ⟨W1, s1, ds, r, R1, v1, hr, fun W' v H' e' k' r' v' => P2 W' v H' e' k' r' v'⟩
theorem e_bi {id : String} {b : BI} (hc : CallR X (.builtin id) (rL G fun s ds => callB s b ds)) (hg : Gl X x) (hm : X.mg x = none) (hv : bootBuiltins x = some (.builtin id)) (ha : PA X (ea :: es) (tA G Wx K ms)) (hn : x ≠ "__name__") (hdb : (x == ("__debug__" : Str)) = false)
    (he : starEach (ea :: es) X.env = (false, eval ea X.env) :: starEach es X.env) (hpl : (backTo pos (starEach es X.env)).any (·.1) = false) : PE X (.Call (.Name x p) (ea :: es) [] pos) (tE G Wx K (.bi b ms)) :=
  (pe_callB hc hg hm hv ha hn hdb he hpl).imp fun σ H Q h => bi_rd h
theorem e_biT {T : String} {b : BI} (hc : CallR X (.type T) (rL G fun s ds => callB s b ds)) (hg : Gl X x) (hm : X.mg x = none) (hv : bootBuiltins x = some (.type T)) (ha : PA X (ea :: es) (tA G Wx K ms)) (hn : x ≠ "__name__") (hdb : (x == ("__debug__" : Str)) = false)
    (he : starEach (ea :: es) X.env = (false, eval ea X.env) :: starEach es X.env) (hpl : (backTo pos (starEach es X.env)).any (·.1) = false) : PE X (.Call (.Name x p) (ea :: es) [] pos) (tE G Wx K (.bi b ms)) :=
  (pe_callTy hc hg hm hv ha hn hdb he hpl).imp fun σ H Q h => bi_rd h
/-! ### methods of lists and texts -/
def bmT : BM → String
  | .join => "str"
  | .split => "str"
  | _ => "list"
theorem bm_ty (hK : X.K = G.K) (R : Rel G W s H) {m : BM} {d : D} {v : V} (hv : VR G W H v d) (h : bmOk s m d = true) (h1 : m ≠ .pop) (h2 : m ≠ .get) (h3 : m ≠ .dcopy) : tyV X.K (bmT m) v H := by
  have l : ∀ {d : D} {v : V}, VR G W H v d → (lstOf s d).isSome = true → tyV X.K "list" v H := fun {d v} hv h => by
    obtain ⟨xs, hx⟩ := Option.isSome_iff_exists.mp h
    obtain ⟨a, vs, rfl, hr, _⟩ := lst_of R hv hx
    exact .inl ⟨rfl, vs, .inl hr⟩
  have t : ∀ {d : D} {v : V}, VR G W H v d → (∃ z, d = .str z) → tyV X.K "str" v H := fun {d v} hv h => by
    obtain ⟨z, rfl⟩ := h
    obtain ⟨rfl, _⟩ := hv.str_
    rfl
  cases m with
  | append => exact l hv h
  | extend => exact l hv h
  | index => exact l hv h
  | count => exact l hv h
  | join => cases d <;> first | exact t hv ⟨_, rfl⟩ | (simp [bmOk] at h)
  | split => cases d <;> first | exact t hv ⟨_, rfl⟩ | (simp [bmOk] at h)
  | pop => exact absurd rfl h1
  | get => exact absurd rfl h2
  | dcopy => exact absurd rfl h3
theorem e_bm {m : BM} {id : String} {name : Str} (C : XC G X Wx) (h1 : m ≠ .pop) (h2 : m ≠ .get) (h3 : m ≠ .dcopy) (pa : PlainAttrs (bmT m)) (slot : Slot (bmT m) name id) (hty : typeOf (.builtin id) = pure (.type "method_descriptor")) (hm : MtR X id (rM G fun s x ds => callM s m x ds)) (ho : PE X eo (tE G Wx K a)) (ha : PA X (ea :: es) (tA G Wx K ms))
    (hno : ∀ s x ds c s', callM s m x ds ≠ .exc c s')
    (hbase : attributeBase eo name X.env (eval eo X.env) = eval eo X.env)
    (hfew : ((backTo pos (starEach (ea :: es) X.env)).all (fun x => !x.1) && (backToKw pos (keywordEach [] X.env)).all (fun x => x.1.isSome)
      && decide ((ea :: es).length + ([] : List Keyword).length + (if ([] : List Keyword).isEmpty then 0 else 1) < 30)) = true)
    (hline : (apos.endLine == pos.line) = true) (hs : starEach (ea :: es) X.env = (false, eval ea X.env) :: starEach es X.env) (hplain : (backTo pos (starEach es X.env)).any (·.1) = false) :
    PE X (.Call (.Attribute eo name apos) (ea :: es) [] pos) (tE G Wx K (.bm m a ms)) :=
  (pe_bm pa slot hty hm ho ha hbase hfew hline hs hplain).imp fun σ H Q ⟨W, s, e, R, ER, P⟩ => by
    simp only [evE] at P
    refine ⟨W, s, e, R, ER, P.bind (rel1 := VR G) fun d s1 W1 v H1 x1 k1 R1 v1 P1 => ?_⟩
    split at P1
    · rename_i hok
      refine ⟨bm_ty C.K R1 v1 hok h1 h2 h3, W1, s1, e, R1, ER.mono x1 k1.toKeep0, P1.bind (rel1 := VRs G) fun ds s2 W2 vs H2 x2 k2 R2 v2 P2 => ?_⟩
      refine ⟨W2, s2, d, ds, R2, v1.mono x2 k2.toKeep0, v2, ?_⟩
      show Post G (VR G) W2 H2 (callM s2 m d ds) Q (fun _ _ => False)
      cases hcm : callM s2 m d ds with
      | ok r s3 => rw [hcm] at P2; exact P2
      | exc c s3 => exact absurd hcm (hno _ _ _ _ _)
      | bad => rw [hcm] at P2; exact P2.elim
    · exact P1.elim
end
end MS

set_option Elab.async false
set_option linter.all false
set_option maxRecDepth 100000
set_option maxHeartbeats 400000
set_option autoImplicit false
/-! S23: places and counts in lists. -/
namespace MSR
open PySem PySem.Spec PyProof.Rows L2
def rCountD (K : PySem.W.Frag) : V → List V → Hp → VK → Prop := fun x xs H Q => ∃ (a : Addr) (y : V) (d : PyData) (ds : List PyData), x = V.ref a ∧ xs = [y] ∧ Dp K H (V.ref a) (.list ds) ∧ Dp K H y d ∧
  SeqAt.shaped (.list ds) = true ∧ SeqAt.shaped d = true ∧ Q (.int ((ds.countP fun z => PyData.eqv z d : Nat) : Int)) H
theorem mt_countD {X : Cx} (hu : X.A.units + 65 < cLine) : MtR X "list.count" (rCountD X.K) := by
  intro pins s σ H x xs v us Q I rx rxs h
  obtain ⟨a, y, d, ds, rfl, rfl, hl, hy, sl, sd, q⟩ := h
  cases rx
  cases rxs with
  | cons ry rt =>
    rename_i uy ut
    cases rt
    obtain ⟨bs, r1⟩ := Dp.reads I d y uy hy ry
    have hxs : PyData.canLayAll0 ds = true := SeqAt.canLay_of_shaped sl
    have hroom : X.A.units + 1 + min (PyData.depthAll ds) d.depth < cLine := room_in_shaped sd hu
    cases hl with
    | lst hs ha =>
      obtain ⟨its, rv, hL, hlen⟩ := I.list hs
      obtain ⟨as, h4⟩ := Dp.readsAll I ds _ its ha rv
      refine PySem.SeqAt.count_list_data hL.isList (show ReadsAll s.heap its.toArray.toList ds as from h4) r1 (PyData.plainAll_of_canLay0 ds hxs) (PyData.plain_of_canLay0 d (SeqAt.canLay_of_shaped sd)) hroom ?_
      exact ⟨.int _, H, I.tok _, ⟨_, rfl⟩, q⟩
end MSR
namespace MS
open PySem L2 M
section
variable {G : G0} {X : Cx} {σ : L2.St} {H H' : Hp} {W W' : Wd} {s : S}
theorem findIx_some {f : D → Bool} : ∀ {xs : List D} {k n : Nat}, findIx f xs k = some n → k ≤ n ∧ (∃ x, xs[n - k]? = some x ∧ f x = true) ∧ ∀ m x, m < n - k → xs[m]? = some x → f x = false
  | [], k, n, h => by cases h
  | x :: r, k, n, h => by
    simp only [findIx] at h
    cases hf : f x with
    | true =>
      rw [hf] at h
      simp only [if_true, Option.some.injEq] at h
      subst h
      exact ⟨Nat.le_refl _, ⟨x, by simp, hf⟩, fun m y hm => by omega⟩
    | false =>
      rw [hf] at h
      simp only [if_neg Bool.false_ne_true] at h
      obtain ⟨h1, ⟨y, h2, h3⟩, h4⟩ := findIx_some h
      have e : n - k = (n - (k + 1)) + 1 := by omega
      refine ⟨by omega, ⟨y, by rw [e, List.getElem?_cons_succ]; exact h2, h3⟩, fun m z hm hz => ?_⟩
      cases m with
      | zero => simp at hz; subst hz; exact hf
      | succ m => exact h4 m z (by omega) (by simpa using hz)
theorem shape_y {d : D} {v : V} (h : plainD 6 d = true) (hv : VR G W H v d) : SeqAt.shaped (toPy d) = true := by
  obtain ⟨a, b⟩ := lay_of h hv
  exact shaped_of a b (by decide)
theorem shape_l {ds : List D} {vs : List V} (h : plainDs 6 ds = true) (hv : VRs G W H vs ds) : SeqAt.shaped (.list (toPys ds)) = true := by
  obtain ⟨a, b⟩ := lays_of h hv
  refine shaped_of (n := 7) ?_ ?_ (by decide)
  · simp only [PyData.canLay0]; exact a
  · simp only [PyData.depth]; omega
theorem lm_index (hK : X.K = G.K) (hu : X.A.units + 65 < cLine) : MtR X "list.index" (rM G fun s x ds => callM s .index x ds) := by
  intro pins s σ H x xs v us Q I rx rxs ⟨W, ms, dx, ds, R, vx, vs, P⟩
  match ds, P with
  | [dy], P =>
    obtain ⟨y, rfl, vy⟩ := vrs1 vs
    simp only [callM] at P
    cases hl : lstOf ms dx with
    | none => rw [hl] at P; exact P.elim
    | some zs =>
      rw [hl] at P
      simp only at P
      split at P
      · rename_i hp
        rw [Bool.and_eq_true] at hp
        obtain ⟨r, hr, P2⟩ := P.opt
        simp only [Option.map_eq_some_iff] at hr
        obtain ⟨n, hn, rfl⟩ := hr
        obtain ⟨a, ws, rfl, hrd, hws⟩ := lst_of R vx hl
        obtain ⟨_, ⟨z, hz, hzf⟩, hno⟩ := findIx_some hn
        rw [Nat.sub_zero] at hz hno
        have pz : ∀ {m : Nat} {w : D}, zs[m]? = some w → plainD 6 w = true := fun h => plainDs_mem hp.2 _ (List.mem_of_getElem? h)
        have gp : ∀ (m : Nat), (toPys zs)[m]? = (zs[m]?).map toPy := fun m => by rw [toPys_map, List.getElem?_map]
        refine mt_indexD hu pins s σ H _ _ v us Q I rx rxs ⟨a, y, toPy dy, toPys zs, n, toPy z, rfl, rfl, by rw [hK]; exact .lst (.inl hrd) (dps_of hp.2 hws), by rw [hK]; exact dp_of hp.1 vy, shape_l hp.2 hws, shape_y hp.1 vy, by rw [gp, hz]; rfl,
          by rw [eqD_eqv z dy 6 6 (pz hz) hp.1]; exact hzf, fun m z' hm hz' => ?_, Post.now P2 R (.int _)⟩
        rw [gp] at hz'
        cases hw : zs[m]? with
        | none => rw [hw] at hz'; cases hz'
        | some w =>
          rw [hw] at hz'
          cases hz'
          rw [eqD_eqv w dy 6 6 (pz hw) hp.1]
          exact hno m w hm hw
      · exact P.elim
  | [], P => exact P.elim
  | _ :: _ :: _, P => exact P.elim
theorem countP_eq {n m : Nat} {zs : List D} {x : D} (pz : plainDs n zs = true) (px : plainD m x = true) : (toPys zs).countP (fun y => PyData.eqv y (toPy x)) = (zs.filter fun z => eqD z x).length := by
  rw [toPys_map, List.countP_map, ← List.countP_eq_length_filter]
  apply List.countP_congr
  intro z hz
  show (PyData.eqv (toPy z) (toPy x) = true) ↔ _
  rw [eqD_eqv z x n m (plainDs_mem pz z hz) px]
theorem lm_count (hK : X.K = G.K) (hu : X.A.units + 65 < cLine) : MtR X "list.count" (rM G fun s x ds => callM s .count x ds) := by
  intro pins s σ H x xs v us Q I rx rxs ⟨W, ms, dx, ds, R, vx, vs, P⟩
  match ds, P with
  | [dy], P =>
    obtain ⟨y, rfl, vy⟩ := vrs1 vs
    simp only [callM] at P
    cases hl : lstOf ms dx with
    | none => rw [hl] at P; exact P.elim
    | some zs =>
      rw [hl] at P
      simp only at P
      split at P
      · rename_i hp
        rw [Bool.and_eq_true] at hp
        obtain ⟨a, ws, rfl, hrd, hws⟩ := lst_of R vx hl
        refine MSR.mt_countD hu pins s σ H _ _ v us Q I rx rxs ⟨a, y, toPy dy, toPys zs, rfl, rfl, by rw [hK]; exact .lst (.inl hrd) (dps_of hp.2 hws), by rw [hK]; exact dp_of hp.1 vy, shape_l hp.2 hws, shape_y hp.1 vy, ?_⟩
        rw [countP_eq hp.2 hp.1]
        exact Post.now P R (.int _)
      · exact P.elim
  | [], P => exact P.elim
  | _ :: _ :: _, P => exact P.elim
theorem noX_append {s : S} {x : D} {ds : List D} {c : Nat} {s' : S} : callM s .append x ds ≠ .exc c s' := by
  unfold callM; intro h; repeat (first | contradiction | split at h)
theorem noX_extend {s : S} {x : D} {ds : List D} {c : Nat} {s' : S} : callM s .extend x ds ≠ .exc c s' := by
  unfold callM; intro h; repeat (first | contradiction | split at h)
theorem noX_index {s : S} {x : D} {ds : List D} {c : Nat} {s' : S} : callM s .index x ds ≠ .exc c s' := by
  unfold callM optR; intro h; repeat (first | contradiction | split at h)
theorem noX_count {s : S} {x : D} {ds : List D} {c : Nat} {s' : S} : callM s .count x ds ≠ .exc c s' := by
  unfold callM; intro h; repeat (first | contradiction | split at h)
theorem noX_join {s : S} {x : D} {ds : List D} {c : Nat} {s' : S} : callM s .join x ds ≠ .exc c s' := by
  unfold callM; intro h; repeat (first | contradiction | split at h)
end
end MS

set_option Elab.async false
set_option linter.all false
set_option maxRecDepth 100000
set_option maxHeartbeats 400000
set_option autoImplicit false
/-! S24: lists joined to a new cell; short words for the bodies. -/
namespace MS
open PySem L2 M
section
variable {G : G0} {X : Cx} {Wx : WX} {K : Calls} {σ : L2.St} {H H' : Hp} {W W' : Wd} {s s' : S} {e : M.Env} {pos p p1 p2 : Pos} {ea eb : Expr} {a b : DE} {j : Nat}
theorem op_cat (hK : X.K = G.K) : OpR X (binaryOp .Add) (fun x y H Q => ∃ l b xs zs, x = .ref l ∧ y = .ref b ∧ Rd H l (.lst xs) ∧ Rd H b (.lst zs) ∧ xs.length + zs.length ≤ sizeLine ∧ ∀ p, H p = none → Q (.ref p) (upd H p (.lst (xs ++ zs)))) := by
  intro pins s σ H x y v u Q I rx ry ⟨l, b, xs, zs, e1, e2, h1, h2, h3, q⟩
  subst e1 e2
  cases rx
  cases ry
  exact cat_ok I h1 h2 h3 q
theorem e_cat (C : XC G X Wx) (ha : PE X ea (tE G Wx K a)) (hb : PE X eb (tE G Wx K b)) : PE X (.BinOp ea .Add eb pos) (tE G Wx K (.cat a b)) :=
  (pe_op (op_cat (G := G) C.K) ha hb).imp fun σ H Q ⟨W, s, e, R, ER, P⟩ => by
    simp only [evE] at P
    refine ⟨W, s, e, R, ER, P.bind (rel1 := VR G) fun d s1 W1 x H1 x1 k1 R1 v1 P1 => ⟨W1, s1, e, R1, ER.mono x1 k1.toKeep0, P1.bind (rel1 := VR G) fun d2 s2 W2 y H2 x2 k2 R2 v2 P2 => ?_⟩⟩
    split at P2
    · rename_i xs ys hx hy
      split at P2
      · rename_i hl
        obtain ⟨l, vs, rfl, h1, h2⟩ := lst_of R2 (v1.mono x2 k2.toKeep0) hx
        obtain ⟨b, ws, rfl, h3, h4⟩ := lst_of R2 v2 hy
        refine ⟨l, b, vs, ws, rfl, rfl, h1, h3, by rw [h2.length, h4.length, ← LIM_eq]; exact hl, fun p hp => ?_⟩
        obtain ⟨e2, k3, r3, v3⟩ := R2.newC hp (HoR.lst (h2.append h4))
        exact P2.ret e2 k3 r3 v3
      · exact P2.elim
    · exact P2.elim
/-! ### short words -/
theorem v (i : Nat) {x : Str} (hN : X.N[i]? = some x := by rfl) (hv : Vis X.env.scope x := by first | exact Or.inl rfl | exact Or.inr (Or.inl rfl) | exact Or.inr (Or.inr rfl)) (hd : (x == ("__debug__" : Str)) = false := by decide) (hcd : (x == ("__classdict__" : Str)) = false := by decide) : PE X (.Name x pos) (tE G Wx K (.var i)) := e_var hN hv hd hcd
theorem c_int {n : Int} : PE X (.Constant (.int n) j pos) (tE G Wx K (.con (.int n))) := e_con pe_int (.int n)
theorem c_neg {n : Int} : PE X (.UnaryOp .USub (.Constant (.int n) j p) pos) (tE G Wx K (.con (.int (-n)))) := by
  have h := pe_un (X := X) (pos := pos) un_neg (pe_int (X := X) (i := n) (j := j) (pos := p))
  exact e_con (v := .int (-n)) (h.imp fun σ H Q q => ⟨n, rfl, q⟩) (.int _)
theorem c_str {x : Tx} (h : okT x = true := by decide) : PE X (.Constant (.str (tx x)) j pos) (tE G Wx K (.con (.str x))) := e_con pe_str (.str x h)
theorem c_bl {b : Bool} : PE X (.Constant (.bool b) j pos) (tE G Wx K (.con (.bl b))) := e_con pe_bl (.bl b)
theorem c_non : PE X (.Constant .none j pos) (tE G Wx K (.con .non)) := e_con pe_non .non
/-- a constant of the module -/
theorem c_gi {x : Str} {n : Int} (hm : ∃ t, X.mg x = some (.int n t)) (hg : Gl X x := by rfl) (hd : (x == ("__debug__" : Str)) = false := by decide) : PE X (.Name x pos) (tE G Wx K (.con (.int n))) := by
  obtain ⟨t, hm⟩ := hm
  exact e_con (v := .int n) (pe_glob hg hm ⟨t, rfl⟩ hd) (.int n)
theorem c_gs {x : Str} {z : Tx} (hm : ∃ t, X.mg x = some (.str (tx z) t)) (hg : Gl X x := by rfl) (hd : (x == ("__debug__" : Str)) = false := by decide) (ho : okT z = true := by decide) : PE X (.Name x pos) (tE G Wx K (.con (.str z))) := by
  obtain ⟨t, hm⟩ := hm
  exact e_con (v := .str (tx z)) (pe_glob hg hm ⟨t, rfl⟩ hd) (.str z ho)
end
end MS

set_option Elab.async false
set_option linter.all false
set_option maxRecDepth 100000
set_option maxHeartbeats 400000
set_option autoImplicit false
/-! S25: short words, more; what the written part says of the errors. -/
namespace MS
open PySem L2 M
/-- what the written part says, so that errors may be asked for their classes -/
structure XFacts (G : G0) (mg : Str → Option Value) : Prop where
  b_isinstance : mg "isinstance" = none
  b_ValueError : mg "ValueError" = none
  exc : ∀ k, k < 16 → ExcC G.K (G.cA k)
  isO : ∀ k c, k < 16 → 0 < c ∧ c < 8 → PySem.W.kitOne G.K (.ref (G.cA k)) (.ref (G.cA c)) = some (decide (c = k))
  isV : ∀ k, k < 16 → PySem.W.kitOne G.K (.ref (G.cA k)) (.type "ValueError") = some true
/-- .. so that an error may be made -/
structure XMk (G : G0) (c : Nat) : Prop where
  q : PySem.W.excIn G.K (G.cA c) [.type "ValueError", .type "Exception", .type "BaseException", .type "object"] "ValueError.__new__" = true
  kp : PySem.W.keepIn G.K (.ref (G.cA c)) = true
  sub : PySem.W.subIn G.K (.ref (G.cA c)) (.type "BaseException") = some true
  ty : PySem.W.typeIn G.K (.ref (G.cA c)) = some (.type "type")
section
variable {G : G0} {X : Cx} {Wx : WX} {K : Calls} {pos apos p p2 : Pos} {ea eo : Expr} {a : DE} {ms : List DE} {es : List Expr} {j : Nat}
theorem raiseX {x m : Str} {c : Nat} (C : XC G X Wx) (T : XMk G c) (gC : X.mg x = some (.ref (G.cA c))) (hg : Gl X x) (hdb : (x == ("__debug__" : Str)) = false) : PMk X (.Call (.Name x p) [.Constant (.str m) j p2] [] pos) (fun _ H Q => Q (.ref (G.cA c)) none H) :=
  pmk_own PySem.F.excBase_ValueError (by rw [C.K]; exact T.q) gC (by rw [C.K]; exact T.kp) (raises_own (by rw [C.K]; exact T.sub) (by rw [C.K]; exact T.ty)) hg hdb
theorem isC (C : XC G X Wx) (T : XFacts G X.mg) (c : Nat) (hc : 0 < c ∧ c < 8) {cx : Str} (hm : X.mg cx = some (.ref (G.cA c))) (ha : PE X ea (tE G Wx K a)) (hg : Gl X "isinstance" := by rfl) (hgc : Gl X cx := by rfl) (hd : (cx == ("__debug__" : Str)) = false := by decide)
    (he : starEach [ea, .Name cx p2] X.env = (false, eval ea X.env) :: starEach [.Name cx p2] X.env := by rfl) (hpl : (backTo pos (starEach [.Name cx p2] X.env)).any (·.1) = false := by rfl) :
    PE X (.Call (.Name "isinstance" p) [ea, .Name cx p2] [] pos) (tE G Wx K (.isI (some c) a)) :=
  e_isI (cv := .ref (G.cA c)) (cu := .ref (G.cA c)) C hg T.b_isinstance ha (pe_glob hgc hm rfl hd) (fun u h => h) T.exc (fun k hk => T.isO k c hk hc) he rfl hpl
theorem isV (C : XC G X Wx) (T : XFacts G X.mg) (ha : PE X ea (tE G Wx K a)) (hg : Gl X "isinstance" := by rfl) (hgc : Gl X "ValueError" := by rfl)
    (he : starEach [ea, .Name "ValueError" p2] X.env = (false, eval ea X.env) :: starEach [.Name "ValueError" p2] X.env := by rfl) (hpl : (backTo pos (starEach [.Name "ValueError" p2] X.env)).any (·.1) = false := by rfl) :
    PE X (.Call (.Name "isinstance" p) [ea, .Name "ValueError" p2] [] pos) (tE G Wx K (.isI none a)) :=
  e_isI (cv := .ty "ValueError") (cu := .type "ValueError") C hg T.b_isinstance ha (pe_bltn hgc T.b_ValueError (by decide +kernel) rfl (by decide) (by decide)) (fun u h => h) T.exc (fun k hk => T.isV k hk) he rfl hpl
end
section
variable {G : G0} {X : Cx} {Wx : WX} {K : Calls} {pos apos : Pos} {ea eo : Expr} {a : DE} {ms : List DE} {es : List Expr}
theorem b_append (C : XC G X Wx) (ho : PE X eo (tE G Wx K a)) (ha : PA X (ea :: es) (tA G Wx K ms)) (hbase : attributeBase eo "append" X.env (eval eo X.env) = eval eo X.env)
    (hfew : ((backTo pos (starEach (ea :: es) X.env)).all (fun x => !x.1) && (backToKw pos (keywordEach [] X.env)).all (fun x => x.1.isSome)
      && decide ((ea :: es).length + ([] : List Keyword).length + (if ([] : List Keyword).isEmpty then 0 else 1) < 30)) = true)
    (hline : (apos.endLine == pos.line) = true) (hs : starEach (ea :: es) X.env = (false, eval ea X.env) :: starEach es X.env) (hplain : (backTo pos (starEach es X.env)).any (·.1) = false) :
    PE X (.Call (.Attribute eo "append" apos) (ea :: es) [] pos) (tE G Wx K (.bm .append a ms)) :=
  e_bm C (by decide) (by decide) (by decide) PySem.F.plainAttrs_list PySem.F.slot_list_append PySem.F.type_list_append lm_append ho ha (fun _ _ _ _ _ => noX_append) hbase hfew hline hs hplain
theorem b_extend (C : XC G X Wx) (ho : PE X eo (tE G Wx K a)) (ha : PA X (ea :: es) (tA G Wx K ms)) (hbase : attributeBase eo "extend" X.env (eval eo X.env) = eval eo X.env)
    (hfew : ((backTo pos (starEach (ea :: es) X.env)).all (fun x => !x.1) && (backToKw pos (keywordEach [] X.env)).all (fun x => x.1.isSome)
      && decide ((ea :: es).length + ([] : List Keyword).length + (if ([] : List Keyword).isEmpty then 0 else 1) < 30)) = true)
    (hline : (apos.endLine == pos.line) = true) (hs : starEach (ea :: es) X.env = (false, eval ea X.env) :: starEach es X.env) (hplain : (backTo pos (starEach es X.env)).any (·.1) = false) :
    PE X (.Call (.Attribute eo "extend" apos) (ea :: es) [] pos) (tE G Wx K (.bm .extend a ms)) :=
  e_bm C (by decide) (by decide) (by decide) PySem.F.plainAttrs_list PySem.F.slot_list_extend PySem.F.type_list_extend lm_extend ho ha (fun _ _ _ _ _ => noX_extend) hbase hfew hline hs hplain
theorem b_index (C : XC G X Wx) (ho : PE X eo (tE G Wx K a)) (ha : PA X (ea :: es) (tA G Wx K ms)) (hbase : attributeBase eo "index" X.env (eval eo X.env) = eval eo X.env)
    (hfew : ((backTo pos (starEach (ea :: es) X.env)).all (fun x => !x.1) && (backToKw pos (keywordEach [] X.env)).all (fun x => x.1.isSome)
      && decide ((ea :: es).length + ([] : List Keyword).length + (if ([] : List Keyword).isEmpty then 0 else 1) < 30)) = true)
    (hline : (apos.endLine == pos.line) = true) (hs : starEach (ea :: es) X.env = (false, eval ea X.env) :: starEach es X.env) (hplain : (backTo pos (starEach es X.env)).any (·.1) = false) :
    PE X (.Call (.Attribute eo "index" apos) (ea :: es) [] pos) (tE G Wx K (.bm .index a ms)) :=
  e_bm C (by decide) (by decide) (by decide) PySem.F.plainAttrs_list PySem.F.slot_list_index PySem.F.type_list_index (lm_index C.K C.hu) ho ha (fun _ _ _ _ _ => noX_index) hbase hfew hline hs hplain
theorem b_count (C : XC G X Wx) (ho : PE X eo (tE G Wx K a)) (ha : PA X (ea :: es) (tA G Wx K ms)) (hbase : attributeBase eo "count" X.env (eval eo X.env) = eval eo X.env)
    (hfew : ((backTo pos (starEach (ea :: es) X.env)).all (fun x => !x.1) && (backToKw pos (keywordEach [] X.env)).all (fun x => x.1.isSome)
      && decide ((ea :: es).length + ([] : List Keyword).length + (if ([] : List Keyword).isEmpty then 0 else 1) < 30)) = true)
    (hline : (apos.endLine == pos.line) = true) (hs : starEach (ea :: es) X.env = (false, eval ea X.env) :: starEach es X.env) (hplain : (backTo pos (starEach es X.env)).any (·.1) = false) :
    PE X (.Call (.Attribute eo "count" apos) (ea :: es) [] pos) (tE G Wx K (.bm .count a ms)) :=
  e_bm C (by decide) (by decide) (by decide) PySem.F.plainAttrs_list PySem.F.slot_list_count PySem.F.type_list_count (lm_count C.K C.hu) ho ha (fun _ _ _ _ _ => noX_count) hbase hfew hline hs hplain
theorem b_join (C : XC G X Wx) (ho : PE X eo (tE G Wx K a)) (ha : PA X (ea :: es) (tA G Wx K ms)) (hbase : attributeBase eo "join" X.env (eval eo X.env) = eval eo X.env)
    (hfew : ((backTo pos (starEach (ea :: es) X.env)).all (fun x => !x.1) && (backToKw pos (keywordEach [] X.env)).all (fun x => x.1.isSome)
      && decide ((ea :: es).length + ([] : List Keyword).length + (if ([] : List Keyword).isEmpty then 0 else 1) < 30)) = true)
    (hline : (apos.endLine == pos.line) = true) (hs : starEach (ea :: es) X.env = (false, eval ea X.env) :: starEach es X.env) (hplain : (backTo pos (starEach es X.env)).any (·.1) = false) :
    PE X (.Call (.Attribute eo "join" apos) (ea :: es) [] pos) (tE G Wx K (.bm .join a ms)) :=
  e_bm C (by decide) (by decide) (by decide) PySem.F.plainAttrs_str PySem.F.slot_str_join PySem.F.type_str_join (lm_join C.K) ho ha (fun _ _ _ _ _ => noX_join) hbase hfew hline hs hplain
end
/-- a block's names, by a look -/
def blkB (N : List Str) (sc scope : Scope) (own : List (Str × Nat)) : Bool :=
  decide (scope.kind = .function) && scope.names.all (fun y => decide (scope.names.lookup y.1 = some y.2)) && own.all (fun p => decide (N[p.2]? = some p.1)) &&
  scope.names.all (fun y => decide (y.2 ≠ .free) || decide (sc.names.lookup y.1 = some .cell) || decide (sc.names.lookup y.1 = some .free)) &&
  scope.names.all (fun y => decide (¬ (y.2 = .local ∨ y.2 = .cell)) || decide (y.1 ∈ own.map (·.1)) || decide (y.1 ∉ N))
theorem blk_ok {N : List Str} {sc scope : Scope} {own : List (Str × Nat)} (h : blkB N sc scope own = true) : BlkOk N sc scope own := by
  unfold blkB at h
  simp only [Bool.and_eq_true, decide_eq_true_eq, List.all_eq_true, Bool.or_eq_true] at h
  obtain ⟨⟨⟨⟨h1, h2⟩, h3⟩, h4⟩, h5⟩ := h
  refine ⟨h1, h2, h3, fun y hy e => ?_, fun y hy e => ?_⟩
  · rcases h4 y hy with (h | h) | h
    · exact absurd e h
    · exact .inl h
    · exact .inr h
  · rcases h5 y hy with (h | h) | h
    · exact absurd e h
    · exact .inl h
    · exact .inr h
/-- what the law promises -/
def spLaw (K : PySem.W.Frag) : Sp := fun vs H Q _ => ∃ (a : Addr) (ns : List Int), vs = [.ref a] ∧ SqL K H a (ns.map V.int) ∧ ns.length ≤ 63 ∧ ∀ H', Q (.bl true) H'
theorem law_sp {G : G0} {T : Nat → Option FD} {n f : Nat} (hpure : ∀ ns : List Int, ns.length ≤ 63 → ∃ s, runF T n f [.scr ns] ⟨[], []⟩ = .ok (.bl true) s) {vs : List V} {H : Hp} {Q : VK} {E : XK} (h : spLaw G.K vs H Q E) : spF G (KF T n) f vs H Q E := by
  obtain ⟨a, ns, rfl, hS, hl, k⟩ := h
  obtain ⟨s, hs⟩ := hpure ns hl
  refine ⟨⟨[], fun b => b = a ∧ H a ≠ none, fun _ => False⟩, ⟨[], []⟩, [.scr ns], ⟨rfl, List.nodup_nil, fun n a x h => by simp at h, fun b h => by simp at h, fun b h => by simp at h, fun b h => by simp at h, fun b h => by rw [h.1]; exact h.2, fun b h => by simp at h, fun b h => h.elim, fun b h => h.elim⟩, .cons (.scr ?_) .nil, ?_⟩
  · by_cases e : H a = none
    · right
      rcases hS with (h | ⟨o, h⟩) | h
      · rw [e] at h; cases h
      · rw [e] at h; cases h
      · exact .inr h
    · exact .inl ⟨⟨rfl, e⟩, hS⟩
  · show Post G (VR G) _ H (runF T n f [.scr ns] ⟨[], []⟩) Q _
    rw [hs]
    intro W' v H' _ _ _ hv
    rw [hv.bl_]
    exact k H'
end MS
namespace MSR
open PySem PySem.Spec PyProof.Rows L2
theorem walk_law {l : PySem.W.OpenLaw} {k : Nat} {q : Program} {loose : List Str} {XP : (Str → Option Value) → Heap → Prop} {YP : World → Heap → Prop} {d : DefRec} {K : Params → PySem.W.Frag} (hn : l.most = some 63) (hdf : d.params.defaults = []) (hr : Room k callerA)
    (hY : ∀ (w : World) (h : Heap), YP w h → (K w.params).In h)
    (F : ∀ (w : World) (mg : Str → Option Value) (fa : Addr) (h : Heap), (K w.params).In h → h.Ns mainGlobals mg → mg d.name = some (.ref fa) →
      ∃ fd : FuncData, (∀ (s : Shared) (u : Value), BindsTo s fd ⟨[u], []⟩ [("_law_script", u)]) ∧ ∀ base : Heap, (K w.params).In base → base.Ns mainGlobals mg → FnOk l.prog w (K w.params) mg base (L2.CX l.prog w) k fa fd ["_law_script"] (MS.spLaw (K w.params))) :
    PySem.W.WalkO q loose XP YP l.row.toRowW d [] (fun f vs => PySem.call f vs) :=
  L2.walk_of (n := 63) (k := k) (x := "_law_script") (CX := fun w => L2.CX l.prog w) (sp := fun w => MS.spLaw (K w.params)) hn (by decide) hdf hr hY F (fun _ _ a ns hl _ hS => ⟨a, ns, rfl, hS, hl, fun _ => rfl⟩) fun _ _ _ _ _ z => by
    obtain ⟨_, _, _, _, _, _, _, _, _, _, _, _, z⟩ := z
    exact z.elim
end MSR

set_option Elab.async false
set_option linter.all false
set_option maxRecDepth 100000
set_option maxHeartbeats 4000000
set_option autoImplicit false
/-! S26: sets of ints and texts, made of lists; how many, in order. -/
namespace MSX
open PySem PySem.Spec PyProof.Rows L2
abbrev byText (w : World) : Bool := w.params.followText "set-order"
abbrev blank (w : World) : Obj := { cls := .type "set", dict := none, data := .set #[] 0 (.fresh 0 0 (!byText w)) }
abbrev led' (w : World) (t : SetTable) : Prop := byText w = true ∨ t.led = true
/-- what an entry stands for -/
def keyX (e : Int × Value) : Key := match e.2 with
  | .int i _ => .inl i
  | .str x _ => .inr x
  | _ => .inl 0
def ks (es : Array (Int × Value)) : List Key := es.toList.map keyX
section
variable {P : Program} {w : World}
def OkX (P : Program) (w : World) (e : Int × Value) : Prop := RelV (kV (keyX e)) e.2 ∧ e.1 = (mixKind P w).hash (keyX e)
theorem keyX_rel {h : Int} {k : Key} {v : Value} (r : RelV (kV k) v) : keyX (h, v) = k := by
  cases k with
  | inl i => obtain ⟨t, e⟩ := (show ∃ t, v = Value.int i t from r); subst e; rfl
  | inr x => obtain ⟨t, e⟩ := (show ∃ t, v = Value.str x t from r); subst e; rfl
theorem okX_of {k : Key} {v : Value} (r : RelV (kV k) v) : OkX P w ((mixKind P w).hash k, v) := by
  unfold OkX
  rw [keyX_rel r]
  exact ⟨r, rfl⟩
theorem okX_els {l : List (Int × Value)} (g : ∀ e ∈ l, OkX P w e) : ElemsOf (mixKind P w) l := fun e he =>
  ⟨⟨keyX e, kV_is (g e he).1, (g e he).2⟩, key_scan (g e he).1⟩
theorem okX_is {e : Int × Value} (g : OkX P w e) (k : Key) : (mixKind P w).is k e.2 = true ↔ keyX e = k :=
  ⟨fun h => (mixKind P w).inj _ _ _ (kV_is g.1) h, fun h => h ▸ kV_is g.1⟩
theorem okX_mem {l : List (Int × Value)} (g : ∀ e ∈ l, OkX P w e) (k : Key) : k ∈ l.map keyX ↔ ∃ e ∈ l, (mixKind P w).is k e.2 = true := by
  rw [List.mem_map]
  exact ⟨fun ⟨e, he, q⟩ => ⟨e, he, (okX_is (g e he) k).mpr q⟩, fun ⟨e, he, q⟩ => ⟨e, he, (okX_is (g e he) k).mp q⟩⟩
/-- the set at a of ints and texts; its table rises, and it can be walked -/
structure IsX (P : Program) (w : World) (h : Heap) (a : Addr) (m : List Key) (o : Obj) (es : Array (Int × Value)) (ep : Nat) (t : SetTable) : Prop where
  ob : h.get? a = some o
  ex : o.ExactSet
  dt : o.data = .set es ep t
  ok : ∀ e ∈ es.toList, OkX P w e
  nd : (ks es).Nodup
  me : ∀ k, k ∈ m ↔ k ∈ ks es
  few : es.size < scanBound
  fit : t.fits es.size = true
  ris : Ris t.place.toList
  ld : led' w t
def SetX (P : Program) (w : World) (h : Heap) (a : Addr) (m : List Key) : Prop := ∃ o es ep t, IsX P w h a m o es ep t ∧ es.size ≤ m.length
theorem IsX.to {h h' : Heap} {a : Addr} {m : List Key} {o : Obj} {es : Array (Int × Value)} {ep : Nat} {t : SetTable} (x : IsX P w h a m o es ep t) (k : ∀ o, h.get? a = some o → h'.get? a = some o) : IsX P w h' a m o es ep t :=
  { x with ob := k _ x.ob }
theorem SetX.to {h h' : Heap} {a : Addr} {m : List Key} (x : SetX P w h a m) (k : ∀ o, h.get? a = some o → h'.get? a = some o) : SetX P w h' a m := by
  obtain ⟨o, es, ep, t, y, z⟩ := x
  exact ⟨o, es, ep, t, y.to k, z⟩
theorem setX_blank {h : Heap} {a : Addr} (ho : h.get? a = some (blank w)) : SetX P w h a [] := by
  refine ⟨_, #[], 0, _, ⟨ho, ⟨rfl, rfl, rfl⟩, rfl, fun e he => ?_, ?_, fun k => ?_, by decide, by rfl, .nil, ?_⟩, Nat.le_refl _⟩
  · simp at he
  · exact List.nodup_nil
  · exact Iff.rfl
  · show byText w = true ∨ (!byText w) = true
    cases byText w
    · exact .inr rfl
    · exact .inl rfl
end
section
variable {P : Program} {w : World} {A : Around} {E : Value → Shared → Prop} {s : Shared} {a : Addr}
/-- behind the laying: stored, laid anew where the table is too full -/
theorem addX_end {g : Bool → Sem Unit} (hg : ∀ (b : Bool) (s1 : Shared) (Q1 : Unit → Shared → Prop), Q1 () s1 → wpAny (model P w) A (g b) Q1 E s1) {m : List Key}
    {o : Obj} {es : Array (Int × Value)} {ep : Nat} {t : SetTable} (ho : s.heap.get? a = some o) (hex : o.ExactSet) (hd : o.data = .set es ep t) {fs : Array (Int × Value)} {u : SetTable}
    (ok : ∀ e ∈ fs.toList, OkX P w e) (nd : (ks fs).Nodup) (me : ∀ k, k ∈ m ↔ k ∈ ks fs) (few : fs.size < scanBound) (fit : u.fits fs.size = true) (ris : Ris u.place.toList) (ld : led' w u) (le : fs.size ≤ m.length) {wd : Bool} {R : Option Bool → Shared → Prop}
    (hR : ∀ h', Heap.SameBut a s.heap h' → SetX P w h' a m → R (some true) { s with heap := h' }) :
    wpAny (model P w) A (do
        storeSet a fs u
        if (!wd && u.tooFull) = true then do
            g (relayAll u fs (SetTable.grown fs.size)).2.2
            storeSet a (relayAll u fs (SetTable.grown fs.size)).1 (relayAll u fs (SetTable.grown fs.size)).2.1
            pure (some true)
          else pure (some true)) R E s := by
  refine wpAny_bind (wpAny_storeSet_of ho hd ?_ (fits_of_scanBound few))
  have o1 := store_at (es' := fs) (t' := u) ho hd
  have b1 := Heap.SameBut.update s.heap a (Obj.putSet fs u)
  by_cases hf : (!wd && u.tooFull) = true
  · rw [if_pos hf]
    have q1 := relayAll_perm u fs (SetTable.grown fs.size)
    have q2 := relayAll_fits u fs (SetTable.grown fs.size)
    have q3 := relayAll_ris u fs (SetTable.grown fs.size)
    have q4 := relayAll_led u fs (SetTable.grown fs.size)
    generalize relayAll u fs (SetTable.grown fs.size) = Z at q1 q2 q3 q4 ⊢
    obtain ⟨gs, v, gave⟩ := Z
    dsimp only at q1 q2 q3 q4 ⊢
    have sz : gs.size = fs.size := by
      have := q1.length_eq
      rwa [Array.length_toList, Array.length_toList] at this
    refine wpAny_bind (hg _ _ _ (wpAny_bind (wpAny_storeSet_of o1 rfl ?_ (fits_of_scanBound (by rw [sz]; exact few)))))
    have o2 := store_at (es' := gs) (t' := v) o1 rfl
    have qk : (ks gs).Perm (ks fs) := q1.map keyX
    exact wpAny_pure (hR _ (b1.trans (Heap.SameBut.update _ a _)) ⟨_, gs, _, v, ⟨o2, hex, rfl, fun e he => ok e (q1.mem_iff.mp he), qk.nodup_iff.mpr nd, fun k => (me k).trans qk.mem_iff.symm, by rw [sz]; exact few, q2, q3, ld.imp id fun z => by rw [q4]; exact z⟩, by rw [sz]; exact le⟩)
  · rw [if_neg hf]
    exact wpAny_pure (hR _ b1 ⟨_, fs, _, u, ⟨o1, hex, rfl, ok, nd, me, few, fit, ris, ld⟩, le⟩)
theorem addX {m : List Key} {k : Key} {x : Value} (hx : RelV (kV k) x) {Q : Bool → Shared → Prop} (R : SetX P w s.heap a m) (room : m.length + 1 < scanBound)
    (hQ : ∀ b h', Heap.SameBut a s.heap h' → SetX P w h' a (m ++ [k]) → Q b { s with heap := h' }) :
    wpAny (model P w) A (setAddHashed a x ((mixKind P w).hash k)) Q E s := by
  obtain ⟨o, es, ep, t, ⟨ho, hex, hd, ok, nd, me, few, fit, ris, ld⟩, le⟩ := R
  have key := kV_is (P := P) (w := w) hx
  have sc := key_scan hx
  have el := okX_els ok
  unfold setAddHashed setAddHashedIn
  refine wpAny_holding (wpAny_bind (wpAny_setState_of ho hd fit ?_))
  dsimp only
  rw [byScan_of sc few el]
  simp only [↓reduceIte]
  unfold setAddByScan
  refine wpAny_bind (wpAny_bind (wpAny_rule (wpAny_bind (wpAny_setScan_of key ho hd fit el ?_))))
  cases hfi : List.findIdx? (fun e => (mixKind P w).is k e.2) es.toList with
  | some j =>
    dsimp only
    obtain ⟨hj, pj, _⟩ := List.findIdx?_eq_some_iff_getElem.mp hfi
    have hk : k ∈ ks es := (okX_mem ok k).mpr ⟨_, List.getElem_mem hj, pj⟩
    refine wpAny_pure (wpAny_pure (hQ _ s.heap (Heap.SameBut.refl a s.heap) ⟨o, es, ep, t, ⟨ho, hex, hd, ok, nd, fun i => ?_, few, fit, ris, ld⟩, ?_⟩))
    · rw [List.mem_append, List.mem_singleton, me i]
      exact ⟨fun z => z.elim id fun e => e ▸ hk, .inl⟩
    · rw [List.length_append]; exact Nat.le_add_right_of_le le
  | none =>
    dsimp only
    have hk : k ∉ ks es := fun z => by
      obtain ⟨e, he, q⟩ := (okX_mem ok k).mp z
      have := List.findIdx?_eq_none_iff.mp hfi e he
      rw [q] at this
      cases this
    have gw : ∀ (b : Bool) {s1 : Shared} {Q1 : Unit → Shared → Prop}, Q1 () s1 → wpAny (model P w) A (match b with | true => rule "set.scan.the-table-gave-way" | false => pure ()) Q1 E s1 :=
      fun b s1 Q1 q => by cases b <;> first | exact wpAny_pure q | exact wpAny_rule q
    have p1 := layNew_perm t es ((mixKind P w).hash k) x
    have p2 := layNew_fits t es ((mixKind P w).hash k) x
    have p3 := layNew_ris t es ((mixKind P w).hash k) x ris
    have p4 := layNew_led t es ((mixKind P w).hash k) x
    generalize layNew t es ((mixKind P w).hash k) x = Z at p1 p2 p3 p4 ⊢
    obtain ⟨fs, u, wd, gave⟩ := Z
    dsimp only at p1 p2 p3 p4 ⊢
    rw [Array.toList_push] at p1
    have p5 := p1.trans (List.perm_append_singleton _ _)
    have p6 : (ks fs).Perm (k :: ks es) := by
      have := p5.map keyX
      rwa [List.map_cons, keyX_rel hx] at this
    have ok1 : ∀ e ∈ fs.toList, OkX P w e := fun e he => by
      rcases List.mem_cons.mp (p5.mem_iff.mp he) with z | z
      · rw [z]; exact okX_of hx
      · exact ok e z
    have nd1 : (ks fs).Nodup := p6.nodup_iff.mpr (List.nodup_cons.mpr ⟨hk, nd⟩)
    have me1 : ∀ i, i ∈ m ++ [k] ↔ i ∈ ks fs := fun i => by
      rw [List.mem_append, List.mem_singleton, me i, p6.mem_iff, List.mem_cons]
      exact Or.comm
    have sz : fs.size = es.size + 1 := by
      have := p5.length_eq
      rwa [Array.length_toList, List.length_cons, Array.length_toList] at this
    have few1 : fs.size < scanBound := by omega
    have le1 : fs.size ≤ (m ++ [k]).length := by rw [List.length_append, List.length_singleton]; omega
    have ld1 : led' w u := ld.imp id fun z => by rw [p4]; exact z
    refine wpAny_bind (gw _ ?_)
    split
    · refine wpAny_bind ?_
      rw [hashByValue_scannable 8 sc]
      refine wpAny_pure (addX_end (m := m ++ [k]) ?_ ho hex hd ok1 nd1 me1 few1 ?_ ?_ ?_ le1 ?_)
      · intro b s1 Q1 q; cases b <;> first | exact wpAny_pure q | exact wpAny_rule q
      · first | (split <;> first | exact p2 | exact SetTable.fits_plain_off p2) | exact p2
      · first | (split <;> exact p3) | exact p3
      · first | (split <;> exact ld1) | exact ld1
      · intro h' sb r; dsimp only; exact wpAny_pure (hQ _ h' sb r)
    · refine wpAny_bind (wpAny_pure ?_)
      simp only [↓reduceIte]
      refine addX_end (m := m ++ [k]) ?_ ho hex hd ok1 nd1 me1 few1 p2 p3 ld1 le1 ?_
      · intro b s1 Q1 q; cases b <;> first | exact wpAny_pure q | exact wpAny_rule q
      · intro h' sb r; dsimp only; exact wpAny_pure (hQ _ h' sb r)
end
section
variable {P : Program} {w : World} {A : Around} {E : Value → Shared → Prop} {s : Shared}
/-- all that is walked comes into the set -/
theorem fillX {I : Addr} {fp wr : List Addr} {G : Array GenState → Array GenState → Prop} {n : Nat} {Pv : Nat → Value → Prop} {St : Nat → Shared → Prop} {R : Result → Shared → Prop}
    (W : WalksS P w A.in1 I fp wr G n Pv St) (D : Addr) (hD : D ∉ fp) (m : List Key) (hn : n = m.length) (room : m.length + 1 < scanBound) (hv : ∀ i v, Pv i v → ∃ k, m[i]? = some k ∧ RelV (kV k) v) :
    ∀ (left i : Nat) (s : Shared), n - i = left → i ≤ n → St i s → SetX P w s.heap D (m.take i) →
      (∀ s', Moved (D :: wr) G s s' → SetX P w s'.heap D m → R (.ok (.ret .none)) s') →
      codeAny (model P w) A (.builtin "set.update.loop" ⟨[.ref D, .ref I], []⟩) R s := by
  have hw : D ∉ wr := fun h => hD (W.sub _ h)
  have sub : ∀ b ∈ wr, b ∈ D :: wr := fun b hb => .tail _ hb
  intro left
  induction left with
  | zero =>
    intro i s e hi st hS hR
    cases (show i = n by omega)
    refine codeAny_builtin PyProof.Rows.F.entry_set_update_loop ?_
    rw [Around.under_plainId PyProof.Rows.F.plain_set_update_loop _]
    show wpAny _ A.in1 (pyNext (.ref I) >>= _) _ _ s
    refine wpAny_bind (W.done s _ _ st fun s1 mv => ?_)
    show wpAny _ A.in1 (ret Value.none) _ _ s1
    rw [List.take_of_length_le (by omega)] at hS
    exact wpAny_pure (hR s1 (mv.mono sub) (hS.to fun o q => mv.heap D o hw q))
  | succ left ih =>
    intro i s e hi st hS hR
    have lt : i < n := by omega
    refine codeAny_builtin PyProof.Rows.F.entry_set_update_loop ?_
    rw [Around.under_plainId PyProof.Rows.F.plain_set_update_loop _]
    show wpAny _ A.in1 (pyNext (.ref I) >>= _) _ _ s
    refine wpAny_bind (W.item i s _ _ lt st fun v s1 hP st1 mv => ?_)
    obtain ⟨k, hk, rv⟩ := hv i v hP
    have S1 := hS.to fun o q => mv.heap D o hw q
    show wpAny _ A.in1 (holding [v] (setAdd D v) >>= _) _ _ s1
    refine wpAny_bind (wpAny_holding ?_)
    unfold setAdd
    refine wpAny_holding (wpAny_bind ((mixKind P w).pyHash (k := k) (kV_is rv) ?_))
    refine addX (s := { s1 with toks := s1.toks + 1 }) rv S1 (by rw [List.length_take]; omega) fun b h1 hb S2 => ?_
    rw [show m.take i ++ [k] = m.take (i + 1) by rw [List.take_add_one, hk]; rfl] at S2
    refine wpAny_pure ⟨plainId_quiet PyProof.Rows.F.plain_set_update_loop _, ih (i + 1) _ (by omega) lt (W.frame _ s1 _ _ st1 (Nat.le_succ _) fun c hc o q => ?_) S2 fun s2 mv2 S3 => ?_⟩
    · rw [hb.2 c (fun z : c = D => hD (z ▸ hc))]; exact q
    · refine hR s2 (Moved.trans W.gtrans ((mv.mono sub).then_heap (Nat.le_succ _) fun c o hc q => ?_) mv2) S3
      rw [hb.2 c (fun z : c = D => hc (z ▸ .head _))]; exact q
/-- set(xs), xs a list of ints and texts -/
theorem call_setX {l : Addr} {items : Array Value} (m : List Key) {Q : Value → Shared → Prop} (hh : A.handled = none) (hl : s.heap.IsList l items) (hit : Vals (m.map kV) items.toList) (room : m.length + 1 < scanBound)
    (h : ∀ (h' : Heap) (tk : Nat), SetX P w h' s.heap.objs.size m → (∀ b o, s.heap.get? b = some o → h'.get? b = some o) → Q (.ref s.heap.objs.size) { s with heap := h', toks := tk }) :
    wpAny (model P w) A (call (.type "set") [.ref l]) Q E s := by
  have sz : items.size = m.length := by
    have q := hit.length
    rw [List.length_map, Array.length_toList] at q
    exact q.symm
  obtain ⟨c, tl, hmro⟩ := PySem.F.called_set.mro
  have made := PySem.F.called_set.made
  have subs := PySem.F.called_set.sub
  refine wpAny_call (codeAny_of_tree ?_)
  show wpAny _ _ (callAny (.type "set") _) _ _ _
  refine wpAny_pure ⟨Code.quiet_builtin _ (by decide +kernel), codeAny_builtin PySem.F.entry_type_call ?_⟩
  rw [Around.under_plain (weight_type_call_type "set" [.ref l] []) rfl]
  have x1 := PySem.F.called_set.notType
  have x2 := PySem.F.called_set.canCreate
  have x3 := PySem.F.typeCall_set_1 (.ref l)
  repeat (any_goals (first | assumption | wp_step))
  refine codeAny_mono (code_set_led1 (.ref l) (E := E) (Q₁ := fun ob s1 => ob = .ref s.heap.objs.size ∧ s1 = { s with heap := s.heap.push (blank w) }) ⟨rfl, rfl⟩) fun r s1 hr => ?_
  cases r with
  | error e => exact hr
  | ok fl =>
    cases fl with
    | ret ob =>
      obtain ⟨rfl, rfl⟩ := hr
      have gS : (s.heap.push (blank w)).get? s.heap.objs.size = some (blank w) := Heap.get?_push_size _ rfl
      have tS : Shared.TypeIs { s with heap := s.heap.push (blank w) } (.ref s.heap.objs.size) "set" := ⟨_, gS, rfl⟩
      have li := PySem.F.called_set.init.lookup
      have bi := PySem.F.called_set.init.bind (.ref s.heap.objs.size)
      repeat (any_goals (first | assumption | wp_step))
      refine codeAny_mono (codeAny_call_builtin (R := wants (fun r s2 => r = .none ∧ ∃ h' tk, s2 = { s with heap := h', toks := tk } ∧ SetX P w h' s.heap.objs.size m ∧ (∀ b o, s.heap.get? b = some o → h'.get? b = some o)) E) PySem.F.called_set.init.plain PySem.F.entry_set_init (check_set_init_1 tS ?_)) fun r2 s2 hr2 => ?_
      · obtain ⟨ol, gl, cl, nl, dl⟩ := hl
        obtain ⟨c1, c2, c3, c4⟩ := ol
        simp only at cl dl
        subst cl; subst dl
        have gl' : (s.heap.push (blank w)).get? l = some { cls := .type "list", dict := c2, data := .seq items nl, slots := c4 } := Heap.get?_push_of_some _ gl
        have n1 := PySem.F.sub_list_set
        have n2 := PySem.F.sub_list_frozenset
        have n3 : (Value.type "list" == Value.type "dict") = false := by decide
        have il : (s.heap.push (blank w)).IsList l items := ⟨_, gl', rfl, nl, rfl⟩
        unfold Builtin.«set.__init__» noKeywords Builtin.Frozenset.updateFrom
        generalize hPI : pyIter = PI
        wp_walk
        subst hPI
        refine wpAny_pyIter_list il (wpAny_bind (wpAny_runValue ?_))
        have hlS : l < s.heap.objs.size := Heap.lt_size gl
        have hh3 : A.in1.in1.in1.handled = none := by simp [hh]
        have lI : l ≠ (s.heap.push (blank w)).objs.size := by
          rw [Heap.size_push]
          exact fun z => Nat.lt_irrefl _ (Nat.lt_trans (z ▸ hlS) (Nat.lt_succ_self _))
        have nS : s.heap.objs.size ∉ [(s.heap.push (blank w)).objs.size, l] := by
          rw [Heap.size_push]
          intro z
          rcases List.mem_cons.mp z with z | z
          · exact absurd z (Nat.ne_of_lt (Nat.lt_succ_self _))
          · exact absurd (List.mem_singleton.mp z).symm (Nat.ne_of_lt hlS)
        have val : ∀ (i : Nat) (v : Value), items[i]? = some v → ∃ k, m[i]? = some k ∧ RelV (kV k) v := fun i v hv => by
          have hi : i < m.length := by rw [← sz]; exact (Array.getElem?_eq_some_iff.mp hv).1
          have hk : (m.map kV)[i]? = some (kV m[i]) := by rw [List.getElem?_map, List.getElem?_eq_getElem hi]; rfl
          obtain ⟨u, hu, ru⟩ := Vals.get hit hk
          rw [Array.getElem?_toList, hv] at hu
          cases hu
          exact ⟨m[i], List.getElem?_eq_getElem hi, ru⟩
        refine fillX ((Walks.list hh3 _ l lI items).toS) s.heap.objs.size nS m sz room val (items.size - 0) 0 _ (by omega) (Nat.zero_le _) ⟨⟨_, Heap.get?_push_size _ rfl, rfl, rfl⟩, (il.push _)⟩ ?_ ?_
        · exact setX_blank (Heap.get?_push_of_some _ gS)
        · intro s3 mv S3
          obtain ⟨h3, g3, d3, t3, o3⟩ := s3
          cases (show g3 = s.gens from mv.gens)
          cases (show d3 = s.drawn from mv.drawn)
          cases (show o3 = s.os from mv.os)
          show wpAny _ _ _ _ _ _
          refine wpAny_pure ?_
          show wpAny _ _ (ret Value.none) _ _ _
          refine wpAny_pure ⟨rfl, h3, t3, rfl, S3, fun b o q => ?_⟩
          have lt := Heap.lt_size q
          refine mv.heap b o ?_ (Heap.get?_push_of_some _ (Heap.get?_push_of_some _ q))
          intro z
          rcases List.mem_cons.mp z with z | z
          · exact absurd z (Nat.ne_of_lt lt)
          · refine absurd (List.mem_singleton.mp z) (Nat.ne_of_lt ?_)
            rw [Heap.size_push]
            exact Nat.lt_succ_of_lt lt
      · cases r2 with
        | error e => exact hr2
        | ok f2 =>
          cases f2 with
          | ret r =>
            obtain ⟨rfl, h3, tk, rfl, S3, k3⟩ := hr2
            repeat (any_goals (first | assumption | wp_step))
            exact h _ _ S3 k3
          | _ => exact hr2.elim
    | _ => exact hr.elim
end
end MSX

set_option Elab.async false
set_option linter.all false
set_option maxRecDepth 100000
set_option maxHeartbeats 1000000
set_option autoImplicit false
/-! S27: sorted(set(xs)), xs a list of ints or of texts. -/
namespace MSX
open PySem PySem.Spec PyProof.Rows L2
def encK : Key → PyData
  | .inl i => .int i
  | .inr x => .str x
theorem encK_reads {h : Heap} {k : Key} {v : Value} (r : RelV (kV k) v) : Reads h v (encK k) [] := by
  cases k with
  | inl i => obtain ⟨t, e⟩ := (show ∃ t, v = Value.int i t from r); subst e; exact .int _ _
  | inr x => obtain ⟨t, e⟩ := (show ∃ t, v = Value.str x t from r); subst e; exact .str _ _
/-- of one kind -/
def OneK (m : List Key) : Prop := (∀ k ∈ m, ∃ i, k = .inl i) ∨ ∀ k ∈ m, ∃ x, k = .inr x
theorem OneK.alike {m : List Key} (h : OneK m) : PySem.W.AllAlike (m.map encK) := by
  intro d hd d' hd'
  obtain ⟨a, ha, rfl⟩ := List.mem_map.mp hd
  obtain ⟨b, hb, rfl⟩ := List.mem_map.mp hd'
  rcases h with h | h
  · obtain ⟨i, rfl⟩ := h a ha
    obtain ⟨j, rfl⟩ := h b hb
    rfl
  · obtain ⟨i, rfl⟩ := h a ha
    obtain ⟨j, rfl⟩ := h b hb
    rfl
theorem encK_sort (m : List Key) : PySem.W.Sortable (m.map encK) := PySem.W.Sortable.others fun k => by
  cases k
  · exact ⟨by simp [encK], fun xs => by simp [encK]⟩
  · exact ⟨by simp [encK], fun xs => by simp [encK]⟩
theorem each_of {m : List Key} {vs : List Value} (r : Vals (m.map kV) vs) : PySem.W.EachIs (fun (v : Value) k => RelV (kV k) v) vs m := by
  induction m generalizing vs with
  | nil => cases r; exact .nil
  | cons k m ih =>
    rw [List.map_cons] at r
    cases r with
    | cons h t => exact .cons h (ih t)
theorem of_each {m : List Key} {vs : List Value} (e : PySem.W.EachIs (fun (v : Value) k => RelV (kV k) v) vs m) : Vals (m.map kV) vs := by
  induction e with
  | nil => exact .nil
  | cons h t ih => rw [List.map_cons]; exact .cons h ih
theorem vals_keyX {P : Program} {w : World} : ∀ {l : List (Int × Value)}, (∀ e ∈ l, OkX P w e) → Vals ((l.map keyX).map kV) (l.map (·.2))
  | [], _ => .nil
  | e :: l, h => .cons (h e (.head _)).1 (vals_keyX fun x hx => h x (.tail _ hx))
/-- what is a permutation of values is one of keys -/
theorem vals_perm {vs vs' : List Value} (p : vs'.Perm vs) : ∀ {m : List Key}, Vals (m.map kV) vs → ∃ m' : List Key, m'.Perm m ∧ Vals (m'.map kV) vs' := by
  induction p with
  | nil => intro m h; exact ⟨m, .refl _, h⟩
  | cons x p ih =>
    intro m h
    cases m with
    | nil => cases h
    | cons k m =>
      rw [List.map_cons] at h
      cases h with
      | cons r t =>
        obtain ⟨m', q, z⟩ := ih t
        exact ⟨k :: m', q.cons k, .cons r z⟩
  | swap x y l =>
    intro m h
    match m, h with
    | k :: k' :: m, .cons r (.cons r' t) => exact ⟨k' :: k :: m, .swap k k' m, .cons r' (.cons r t)⟩
  | trans p1 p2 ih1 ih2 =>
    intro m h
    obtain ⟨m1, q1, z1⟩ := ih2 h
    obtain ⟨m2, q2, z2⟩ := ih1 z1
    exact ⟨m2, q2.trans q1, z2⟩
section
variable {P : Program} {w : World} {A : Around} {E : Value → Shared → Prop} {s : Shared} {a : Addr}
theorem call_sortedX {m : List Key} {Q : Value → Shared → Prop} (R : SetX P w s.heap a m) (hh : A.handled = none) (hm : m.length ≤ 1000) (one : OneK m) (hu : A.units + 64 < cLine)
    (hQ : ∀ s' p (out : Array Value) (c : Nat) (us : List Key), (∀ b o, s.heap.get? b = some o → s'.heap.get? b = some o) → s'.gens = s.gens → s'.os = s.os → s.heap.objs.size ≤ p →
      s'.heap.get? p = some (seqObj "list" out c) → us.Nodup → (∀ k, k ∈ us ↔ k ∈ m) → us.length ≤ m.length → Vals ((us.mergeSort (PySem.W.dataLe false encK)).map kV) out.toList → Q (.ref p) s') :
    wpAny (model P w) A (call (.builtin "sorted") [.ref a]) Q E s := by
  obtain ⟨o, es, ep, t, ⟨ho, hex, hd, ok, nd, me, few, fit, ris, ld⟩, le⟩ := R
  refine Calls.call_function_entry kind_sorted plain_sorted entry_sorted (args_sorted1 _) ?_
  unfold Builtin.«sorted»
  refine wpAny_bind (m := checkCount "sorted" 1 1 _) (wpAny_pure ?_)
  refine wpAny_bind (collect_set (A := A.in1) hh ⟨o, ho, hex.1, hd⟩ fit few ris ld fun s1 vs k1 hz g1 o1 pm => ?_)
  obtain ⟨us, pu, rv⟩ := vals_perm pm (vals_keyX ok)
  have un : us.Nodup := pu.nodup_iff.mpr nd
  have um : ∀ k, k ∈ us ↔ k ∈ m := fun k => by rw [pu.mem_iff]; exact (me k).symm
  have ul : us.length ≤ m.length := by
    have q := pu.length_eq
    rw [List.length_map] at q
    rw [q, Array.length_toList]
    exact le
  have vl : vs.length = us.length := by
    have := rv.length
    rw [List.length_map] at this
    exact this.symm
  have one' : OneK us := one.imp (fun h k hk => h k ((um k).mp hk)) fun h k hk => h k ((um k).mp hk)
  refine wpAny_bind (wpAny_newList ?_ (by rw [vl, sizeLine_eq]; omega))
  have hoL : (s1.heap.push (seqObj "list" vs.toArray 0)).get? s1.heap.objs.size = some (seqObj "list" vs.toArray 0) := Heap.get?_push_size _ rfl
  have ea := each_of rv
  have ea2 : PySem.W.EachIs (fun (v : Value) k => ∃ as, Reads (s1.heap.push (seqObj "list" vs.toArray 0)) v (encK k) as ∧ s1.heap.objs.size ∉ as) vs us := by
    generalize s1.heap.push (seqObj "list" vs.toArray 0) = g0
    clear hoL vl ul um un one' pm pu rv
    induction ea with
    | nil => exact .nil
    | cons h t ih => exact .cons ⟨[], encK_reads h, by simp⟩ ih
  refine wpAny_bind (wpAny_holding (PySem.W.list_sort_data (enc := encK) (vs := vs) hoL ea ea2 one'.alike (encK_sort us) (by rw [sizeLine_eq]; omega) (fun k hk => ?_) fun out ol oe => ?_))
  · have : (encK k).depth = 0 := by cases k <;> rfl
    rw [this]
    show A.in1.units + 1 + 0 < cLine
    have := show A.in1.units ≤ A.units + 1 from Nat.le_refl _
    omega
  · obtain ⟨c, hc⟩ := sortedHeap_at (vs := vs) (out := out.toArray) hoL
    refine wpAny_pure ⟨_, rfl, hQ _ s1.heap.objs.size out.toArray c us (fun b u e => ?_) g1 o1 hz hc un um ul (of_each oe)⟩
    have q := k1 b u e
    have lt := Heap.lt_size q
    show (sortedHeap (s1.heap.push (seqObj "list" vs.toArray 0)) s1.heap.objs.size vs out.toArray).get? b = some u
    rw [sortedHeap_old (Nat.ne_of_lt lt) (by rw [size_push']; exact Nat.lt_succ_of_lt lt)]
    exact Heap.get?_push_of_some _ q
end
end MSX

set_option Elab.async false
set_option linter.all false
set_option maxRecDepth 100000
set_option maxHeartbeats 1000000
set_option autoImplicit false
/-! S28: sorted(set(xs)) as an expression. -/
namespace MSX
open PySem PySem.Spec PyProof.Rows L2
def SetXO (P : Program) (w : World) (a : Addr) (m : List Key) : HO := .ext fun h => SetX P w h a m
section
variable {X : Cx} {pins : List (Addr × Obj)} {σ : L2.St} {H : Hp} {s : Shared} {a : Addr} {m : List Key}
theorem setXO_new {P : Program} {w : World} {h : Heap} (R : SetX P w h a m) : ObjOk P w H h a (SetXO P w a m) := by
  obtain ⟨o, es, ep, t, y, z⟩ := id R
  exact ⟨R, ⟨o, y.ob⟩, fun h1 h2 p k => SetX.to p k⟩
theorem setXO_get (I : Inv X pins σ H s) (ha : H a = some (SetXO X.prog X.w a m)) : SetX X.prog X.w s.heap a m := (I.hok a _ ha).1
def rSetX (K : PySem.W.Frag) (P : Program) (w : World) : List V → Hp → VK → Prop := fun vs H Q => ∃ (l : Addr) (m : List Key), vs = [.ref l] ∧ SqL K H l (m.map kV) ∧ m.length ≤ 1000 ∧ ∀ p, H p = none → Q (.ref p) (upd H p (SetXO P w p m))
theorem cr_setX (hc : X.calm = true) : CallR X (.type "set") (rSetX X.K X.prog X.w) := by
  intro pins s σ H xs us Q I r h
  obtain ⟨l, m, rfl, hl, hm, q⟩ := h
  rw [Vals.ref1 r]
  obtain ⟨its, rv, pl, hz⟩ := I.list hl
  have hn : H s.heap.objs.size = none := I.hok.fresh (Nat.le_refl _)
  refine call_setX (P := X.prog) (w := X.w) m (I.ok.hd hc) pl.isList (by simpa using rv) (by unfold scanBound; omega) fun h' tk R k => ?_
  exact ⟨.ref s.heap.objs.size, upd H s.heap.objs.size (SetXO X.prog X.w s.heap.objs.size m), I.laid (t' := tk) k (Nat.le_refl _) (setXO_new R), rfl, q _ hn⟩
def rSortX (P : Program) (w : World) : List V → Hp → VK → Prop := fun vs H Q => ∃ (a : Addr) (m : List Key), vs = [.ref a] ∧ H a = some (SetXO P w a m) ∧ m.length ≤ 1000 ∧ OneK m ∧
  ∀ (us : List Key) (p : Addr), us.Nodup → (∀ k, k ∈ us ↔ k ∈ m) → H p = none → Q (.ref p) (upd H p (.lst ((us.mergeSort (PySem.W.dataLe false encK)).map kV)))
theorem cr_sortX (hc : X.calm = true) (hu : X.A.units + 65 < cLine) : CallR X (.builtin "sorted") (rSortX X.prog X.w) := by
  intro pins s σ H vs us Q I r h
  obtain ⟨a, m, rfl, ha, hm, one, q⟩ := h
  rw [Vals.ref1 r]
  refine call_sortedX (setXO_get I ha) (I.ok.hd hc) hm one (by omega) fun s1 p out c us k g o hp ho un um ul rv => ?_
  have hl : ((us.mergeSort (PySem.W.dataLe false encK)).map kV).length ≤ sizeLine := by
    rw [List.length_map, List.length_mergeSort, sizeLine_eq]; omega
  have hn : H p = none := I.hok.fresh hp
  have J : Inv X pins σ (upd H p (.lst ((us.mergeSort (PySem.W.dataLe false encK)).map kV))) { s with heap := s1.heap, gens := s1.gens, drawn := s1.drawn, toks := s1.toks } :=
    I.call (ch := []) (Un.laid k hp hn) (I.hok.laid k hp ⟨hl, out.toList, c, rv, ho⟩) (by rw [g]; exact I.bare) (fun _ z => nomatch z)
  have e : s1 = { s with heap := s1.heap, gens := s1.gens, drawn := s1.drawn, toks := s1.toks } := by
    cases s1; cases s; cases o; rfl
  rw [e]
  exact ⟨.ref p, _, J, rfl, q us p un um hn⟩
end
end MSX
namespace MS
open PySem L2 M
/-! an order of keys -/
def le3 : Ky → Ky → Bool
  | .i x, .i y => decide (x ≤ y)
  | .i _, _ => true
  | .s x, .s y => !decide (y < x)
  | .s _, .i _ => false
  | .s _, .p _ => true
  | .p _, .p _ => true
  | .p _, _ => false
theorem le3_total (a b : Ky) : (le3 a b || le3 b a) = true := by
  cases a <;> cases b <;> simp [le3]
  · omega
  · rename_i x y
    rcases Classical.em (y < x) with h | h
    · exact .inr (Std.not_lt.mpr (Std.le_of_lt h))
    · exact .inl (Std.not_lt.mp h)
theorem le3_trans (a b c : Ky) (h : le3 a b = true) (h2 : le3 b c = true) : le3 a c = true := by
  cases a <;> cases b <;> cases c <;> simp [le3] at h h2 ⊢
  · omega
  · exact List.le_trans h h2
theorem le3_anti {a b : Ky} (ha : a.t = false) (hb : b.t = false) (h : le3 a b = true) (h2 : le3 b a = true) : a = b := by
  cases a <;> cases b <;> simp [le3, Ky.t] at h h2 ha hb ⊢
  · omega
  · exact List.le_antisymm h h2
theorem mem_dedup {k : Ky} : ∀ {l : List Ky}, k ∈ dedup l ↔ k ∈ l
  | [] => Iff.rfl
  | x :: l => by
    rw [dedup]
    split
    · rename_i h
      rw [mem_dedup, List.mem_cons]
      exact ⟨.inr, fun z => z.elim (fun e => e ▸ h) id⟩
    · rw [List.mem_cons, List.mem_cons, mem_dedup]
theorem nodup_dedup : ∀ l : List Ky, (dedup l).Nodup
  | [] => List.nodup_nil
  | x :: l => by
    rw [dedup]
    split
    · exact nodup_dedup l
    · rename_i h
      exact List.nodup_cons.mpr ⟨fun z => h (mem_dedup.mp z), nodup_dedup l⟩
theorem len_dedup : ∀ l : List Ky, (dedup l).length ≤ l.length
  | [] => Nat.le_refl _
  | x :: l => by
    have := len_dedup l
    rw [dedup]
    split
    · rw [List.length_cons]; omega
    · rw [List.length_cons, List.length_cons]; omega
theorem kys_v {G : G0} {W : Wd} {H : Hp} : ∀ {ds : List D} {ks : List Ky} {vs : List V}, kysOf ds = some ks → (∀ k ∈ ks, k.t = false) → VRs G W H vs ds → vs = (ks.map keyK).map kV ∧ ∀ k ∈ ks, kyOk k = true
  | [], ks, vs, e, _, h => by cases e; cases h; exact ⟨rfl, fun _ z => by cases z⟩
  | d :: ds, ks, vs, e, ht, h => by
    cases h with
    | cons h1 h2 =>
      simp only [kysOf] at e
      cases e1 : toKy d with
      | none => rw [e1] at e; cases e
      | some k =>
        cases e2 : kysOf ds with
        | none => rw [e1, e2] at e; cases e
        | some ks' =>
          rw [e1, e2] at e
          cases e
          obtain ⟨i1, i2⟩ := kys_v e2 (fun x hx => ht x (.tail _ hx)) h2
          obtain ⟨o, z, _⟩ := toKy_v e1 h1
          refine ⟨?_, fun x hx => ?_⟩
          · rw [z (ht k (.head _)), i1]; rfl
          · rcases List.mem_cons.mp hx with rfl | hx
            · exact o
            · exact i2 x hx
theorem kyDs_v {G : G0} {W : Wd} {H : Hp} : ∀ {ks : List Ky}, (∀ k ∈ ks, k.t = false ∧ kyOk k = true) → VRs G W H ((ks.map keyK).map kV) (ks.map kyD)
  | [], _ => .nil
  | k :: ks, h => by
    obtain ⟨h1, h2⟩ := h k (.head _)
    have ih := kyDs_v (G := G) (W := W) (H := H) fun x hx => h x (.tail _ hx)
    cases k with
    | i n => exact .cons (.int n) ih
    | s x => exact .cons (.str x h2) ih
    | p l => cases h1
theorem keyK_inj {a b : Ky} (ha : a.t = false) (hb : b.t = false) (h : keyK a = keyK b) : a = b := by
  cases a with
  | i n => cases b with
    | i m => cases h; rfl
    | s x => cases h
    | p l => cases hb
  | s y => cases b with
    | i m => cases h
    | s x =>
      have : tx y = tx x := Sum.inr.inj h
      rw [tx_inj this]
    | p l => cases hb
  | p l => cases ha
/-- the members in order -/
theorem set_sort {ks : List Ky} (ht : ∀ k ∈ ks, k.t = false) (hs : canSort ((dedup ks).map kyD) = true) :
    MSX.OneK (ks.map keyK) ∧ ∀ us : List Key, us.Nodup → (∀ k, k ∈ us ↔ k ∈ ks.map keyK) → ∃ zs : List Ky, us.mergeSort (PySem.W.dataLe false MSX.encK) = zs.map keyK ∧ sortD ((dedup ks).map kyD) = zs.map kyD ∧ (∀ k ∈ zs, k ∈ ks) := by
  have al : ∀ a ∈ ks, ∀ b ∈ ks, alikeD (kyD a) (kyD b) = true := fun a ha b hb => by
    unfold canSort at hs
    rw [Bool.and_eq_true, List.all_eq_true] at hs
    have h1 := hs.1 (kyD a) (List.mem_map.mpr ⟨a, mem_dedup.mpr ha, rfl⟩)
    rw [Bool.and_eq_true, List.all_eq_true] at h1
    exact h1.2 (kyD b) (List.mem_map.mpr ⟨b, mem_dedup.mpr hb, rfl⟩)
  have rel : ∀ a ∈ ks, ∀ b ∈ ks, le3 a b = PySem.W.dataLe false MSX.encK (keyK a) (keyK b) ∧ le3 a b = !ltD (kyD b) (kyD a) := fun a ha b hb => by
    have h1 := al b hb a ha
    have ta := ht a ha
    have tb := ht b hb
    have e1 : ∀ k : Ky, k.t = false → toPy (kyD k) = MSX.encK (keyK k) := fun k h => by cases k with
      | i n => rfl
      | s x => rfl
      | p l => cases h
    have pl : ∀ k : Ky, k.t = false → plainD 5 (kyD k) = true := fun k h => by cases k with
      | i n => rfl
      | s x => rfl
      | p l => cases h
    have h2 := (ltD_data (kyD b) (kyD a) 5 5 (pl b tb) (pl a ta) h1).2
    rw [e1 b tb, e1 a ta] at h2
    have h3 : le3 a b = !ltD (kyD b) (kyD a) := by
      cases a with
      | i n => cases b with
        | i m =>
          show decide (n ≤ m) = !decide (m < n)
          rw [Bool.eq_iff_iff]
          simp
        | s x => simp [kyD, alikeD] at h1
        | p l => cases tb
      | s y => cases b with
        | i m => simp [kyD, alikeD] at h1
        | s x => rfl
        | p l => cases tb
      | p l => cases ta
    refine ⟨?_, h3⟩
    rw [PySem.W.dataLe_eq]
    show le3 a b = !PySem.W.dataLt (MSX.encK (keyK b)) (MSX.encK (keyK a))
    rw [h2, h3]
  refine ⟨?_, fun us un um => ?_⟩
  · by_cases h : ∃ x, Ky.s x ∈ ks
    · obtain ⟨x, hx⟩ := h
      refine .inr fun k hk => ?_
      obtain ⟨q, hq, rfl⟩ := List.mem_map.mp hk
      have := al _ hx q hq
      cases q with
      | i n => simp [kyD, alikeD] at this
      | s y => exact ⟨_, rfl⟩
      | p l => cases ht _ hq
    · refine .inl fun k hk => ?_
      obtain ⟨q, hq, rfl⟩ := List.mem_map.mp hk
      cases q with
      | i n => exact ⟨_, rfl⟩
      | s y => exact absurd ⟨y, hq⟩ h
      | p l => cases ht _ hq
  · have ex : ∃ zs0 : List Ky, us = zs0.map keyK ∧ ∀ k ∈ zs0, k ∈ ks := by
      have : ∀ vs : List Key, (∀ k ∈ vs, k ∈ ks.map keyK) → ∃ zs0 : List Ky, vs = zs0.map keyK ∧ ∀ k ∈ zs0, k ∈ ks := by
        intro vs
        induction vs with
        | nil => intro _; exact ⟨[], rfl, fun _ h => by cases h⟩
        | cons v vs ih =>
          intro h
          obtain ⟨zs, e, hz⟩ := ih fun k hk => h k (.tail _ hk)
          obtain ⟨q, hq, e2⟩ := List.mem_map.mp (h v (.head _))
          exact ⟨q :: zs, by rw [e, ← e2]; rfl, fun k hk => (List.mem_cons.mp hk).elim (fun z => z ▸ hq) (hz k)⟩
      exact this us fun k hk => (um k).mp hk
    obtain ⟨zs0, rfl, hz⟩ := ex
    have zn : zs0.Nodup := by
      exact List.Pairwise.of_map keyK (fun a b hne e => hne (congrArg keyK e)) un
    have zp : zs0.Perm (dedup ks) := (List.perm_ext_iff_of_nodup zn (nodup_dedup ks)).mpr fun k => by
      rw [mem_dedup]
      refine ⟨hz k, fun hk => ?_⟩
      obtain ⟨q, hq, e⟩ := List.mem_map.mp ((um (keyK k)).mpr (List.mem_map.mpr ⟨k, hk, rfl⟩))
      rw [← keyK_inj (ht q (hz q hq)) (ht k hk) e]
      exact hq
    have e1 : (zs0.map keyK).mergeSort (PySem.W.dataLe false MSX.encK) = (zs0.mergeSort le3).map keyK := (List.map_mergeSort fun a ha b hb => (rel a (hz a ha) b (hz b hb)).1).symm
    have e2 : sortD ((dedup ks).map kyD) = ((dedup ks).mergeSort le3).map kyD := (List.map_mergeSort fun a ha b hb => (rel a (mem_dedup.mp ha) b (mem_dedup.mp hb)).2).symm
    have e3 : zs0.mergeSort le3 = (dedup ks).mergeSort le3 := by
      refine List.Perm.eq_of_pairwise (le := fun a b => le3 a b = true) (fun a b ha hb h1 h2 => ?_) (List.pairwise_mergeSort le3_trans le3_total zs0) (List.pairwise_mergeSort le3_trans le3_total _) (((List.mergeSort_perm zs0 _).trans zp).trans (List.mergeSort_perm _ _).symm)
      exact le3_anti (ht a (hz a ((List.mergeSort_perm zs0 _).mem_iff.mp ha))) (ht b (mem_dedup.mp ((List.mergeSort_perm _ _).mem_iff.mp hb))) h1 h2
    exact ⟨_, e1, by rw [e2, e3], fun k hk => hz k ((List.mergeSort_perm zs0 _).mem_iff.mp hk)⟩
section
variable {G : G0} {X : Cx} {Wx : WX} {K : Calls} {pos p p2 q : Pos} {ea : Expr} {a : DE}
theorem e_setSorted (C : XC G X Wx) (hm : X.mg "sorted" = none) (hm2 : X.mg "set" = none) (ha : PE X ea (tE G Wx K a)) (hg : Gl X "sorted" := by rfl) (hg2 : Gl X "set" := by rfl)
    (na : starEach [ea] X.env = (false, eval ea X.env) :: starEach [] X.env := by rfl) (nb : starEach [.Call (.Name "set" p2) [ea] [] q] X.env = (false, eval (.Call (.Name "set" p2) [ea] [] q) X.env) :: starEach [] X.env := by rfl) :
    PE X (.Call (.Name "sorted" p) [.Call (.Name "set" p2) [ea] [] q] [] pos) (tE G Wx K (.bi .setSorted [a])) :=
  (pe_callB (MSX.cr_sortX C.calm (by have := C.hu; omega)) hg hm PyProof.Rows.boot_sorted (pa_cons (pe_callTy (MSX.cr_setX C.calm) hg2 hm2 PyProof.Rows.boot_set (pa_cons ha pa_nil na) (by decide) (by decide) na rfl) pa_nil nb) (by decide) (by decide) nb rfl).imp fun σ H Q ⟨W, s, e, R, ER, P⟩ => by
    simp only [evE, evEs] at P
    refine ⟨W, s, e, R, ER, ?_⟩
    have P' : Post G (VR G) W H ((evE K a e s).bind fun d s => optR (callB s .setSorted [d]) s) Q (wx G Wx σ) := by
      cases h : evE K a e s <;> rw [h] at P <;> exact P
    refine P'.bind (rel1 := VR G) fun d s1 W1 x H1 x1 k1 R1 v1 P1 => ?_
    obtain ⟨r, hr, P2⟩ := P1.opt
    simp only [callB] at hr
    cases hq : lstOf s1 d with
    | none => rw [hq] at hr; cases hr
    | some ys =>
      rw [hq] at hr
      simp only [Option.bind_some] at hr
      cases hk : kysOf ys with
      | none => rw [hk] at hr; cases hr
      | some ks =>
        rw [hk] at hr
        simp only [Option.bind_some] at hr
        split at hr
        · rename_i c
          split at hr
          · rename_i cs
            cases hr
            have ht : ∀ k ∈ ks, k.t = false := fun k hk => by simpa using List.all_eq_true.mp c.2 k hk
            obtain ⟨l, ws, rfl, hrd, hw⟩ := lst_of R1 v1 hq
            obtain ⟨e1, hok⟩ := kys_v hk ht hw
            obtain ⟨one, hsort⟩ := set_sort ht cs
            refine ⟨l, ks.map keyK, rfl, by rw [← e1]; exact sqL_of C.K hrd, by rw [List.length_map]; exact c.1, fun p0 hp0 => ?_⟩
            refine ⟨p0, ks.map keyK, rfl, upd_same, by rw [List.length_map]; exact c.1, one, fun us p1 un um hp1 => ?_⟩
            obtain ⟨zs, z1, z2, z3⟩ := hsort us un um
            have k2 : Keeps W1 H1 (upd H1 p0 (MSX.SetXO X.prog X.w p0 (ks.map keyK))) := Keeps.new hp0
            have R2 := R1.step (upd_keep (o := MSX.SetXO X.prog X.w p0 (ks.map keyK)) hp0)
            rw [z1]
            obtain ⟨e3, k3, R3, v3⟩ := newL R2 hp1 (kyDs_v (G := G) (W := W1) (H := upd H1 p0 (MSX.SetXO X.prog X.w p0 (ks.map keyK))) fun k hk => ⟨ht k (z3 k hk), hok k (z3 k hk)⟩)
            rw [← z2] at v3
            exact P2 _ _ _ e3 (k2.trans (Ext.refl W1) k3) R3 v3
          · cases hr
        · cases hr
end
end MS

set_option Elab.async false
set_option linter.all false
set_option maxRecDepth 100000
set_option maxHeartbeats 1000000
set_option autoImplicit false
/-! S29: sorted(d.keys()), list(d.keys()). -/
namespace MSX
open PySem PySem.Spec PyProof.Rows L2
def kviewO (p d : Addr) : HO := .ext fun h => PySem.W.KdlKeysView h p d
theorem kviewO_ok {P : Program} {w : World} {H : Hp} {h : Heap} {p d : Addr} (e : h.get? p = some { cls := .type "dict_keys", data := .fields #[.ref d] }) : ObjOk P w H h p (kviewO p d) :=
  ⟨⟨_, e, rfl, rfl⟩, ⟨_, e⟩, fun h1 h2 ⟨o, x, y⟩ k => ⟨o, k o x, y⟩⟩
theorem vals_is {P : Program} {w : World} : ∀ {ks : List Key} {vs : List Value}, vs.length = ks.length → (∀ (j : Nat) v, vs[j]? = some v → ∃ k, ks[j]? = some k ∧ (mixKind P w).is k v = true) → Vals (ks.map kV) vs
  | [], [], _, _ => .nil
  | [], _ :: _, h, _ => by simp at h
  | _ :: _, [], h, _ => by simp at h
  | k :: ks, v :: vs, h, f => by
    refine .cons ?_ (vals_is (by simpa using h) fun j u hu => f (j + 1) u hu)
    obtain ⟨k', e, q⟩ := f 0 v rfl
    cases e
    rcases keyIs_shape q with ⟨i, t, rfl, rfl⟩ | ⟨x, t, rfl, rfl⟩
    · exact ⟨t, rfl⟩
    · exact ⟨t, rfl⟩
section
variable {X : Cx} {eo : Expr} {to : TE} {apos cpos p q pos : Pos}
def tDKeys (to : TE) : TE := fun σ H Q => to σ H fun x H1 => ∃ (a : Addr) (kvs : List (Key × V)), x = .ref a ∧ Rd H1 a (.dK kvs) ∧ ∀ p, H1 p = none → Q (.ref p) (upd H1 p (kviewO p a))
theorem pe_dkeys (he : PE X eo to) (hbase : attributeBase eo "keys" X.env (eval eo X.env) = eval eo X.env) (hline : (apos.endLine == cpos.line) = true) : PE X (.Call (.Attribute eo "keys" apos) [] [] cpos) (tDKeys to) := by
  refine ⟨fun pins s σ H Q I h => ?_⟩
  refine wpAny_Call_method (T := "dict") (id := "dict.keys") hbase rfl hline F.plainAttrs_dict F.slot_dict_keys F.type_dict_keys (thn (he.run pins s σ H _ I h) fun u s1 ⟨x, H1, I1, rx, a, kvs, ex, hd, k⟩ => ?_)
  subst ex
  obtain rfl : u = Value.ref a := rx
  obtain ⟨z, lo, vs, rel, dd⟩ := dk_rd I1.hok hd
  refine ⟨dd.typeIs, dd.mapOf.noDict, ?_⟩
  have hn : H1 s1.heap.objs.size = none := I1.hok.fresh (Nat.le_refl _)
  have fin : EP X pins σ Q (.ref s1.heap.objs.size) { s1 with heap := s1.heap.push { cls := .type "dict_keys", data := .fields #[.ref a] } } :=
    ⟨.ref _, upd H1 s1.heap.objs.size (kviewO s1.heap.objs.size a), I1.laid (t' := s1.toks) (fun b u e => Heap.get?_push_of_some _ e) (Nat.le_refl _) (kviewO_ok (Heap.get?_push_size _ rfl)), rfl, k _ hn⟩
  show wpAny _ _ (callWith cpos (.builtin "dict.keys") [.ref a] [] []) _ X.xe s1
  exact method_meetsIn F.slot_dict_keys F.entry_dict_keys rfl (PySem.evalArgs_none ⟨rfl, dd.typeIs, F.args_dict_keys_1 _, _, PySem.W.kdl_meets_keys (mixKind X.prog X.w) a lo, ⟨vs, dd⟩, fin⟩)
def rSortV : List V → Hp → VK → Prop := fun vs H Q => ∃ (p a : Addr) (kvs : List (Key × V)), vs = [.ref p] ∧ H p = some (kviewO p a) ∧ Rd H a (.dK kvs) ∧ kvs.length ≤ 1000 ∧ OneK (kvs.map (·.1)) ∧
  ∀ p, H p = none → Q (.ref p) (upd H p (.lst (((kvs.map (·.1)).mergeSort (PySem.W.dataLe false encK)).map kV)))
theorem cr_sortV (hc : X.calm = true) (hu : X.A.units + 65 < cLine) : CallR X (.builtin "sorted") rSortV := by
  intro pins s σ H vs us Q I r h
  obtain ⟨p, a, kvs, rfl, hp, hd, hm, one, k⟩ := h
  rw [Vals.ref1 r]
  obtain ⟨z, lo, xs, rel, dd⟩ := dk_rd I.hok hd
  obtain ⟨ep, hat⟩ := dd.dictAt
  have hkeys : xs.map (·.1) = kvs.map (·.1) := rel.keys.symm
  have hl : xs.length = kvs.length := by
    have e := congrArg List.length hkeys
    rwa [List.length_map, List.length_map] at e
  have hv : PySem.W.KdlKeysView s.heap p a := (I.hok p _ hp).1
  refine Calls.call_function_entry kind_sorted plain_sorted entry_sorted (args_sorted1 _) ?_
  unfold Builtin.«sorted»
  refine wpAny_bind (m := checkCount "sorted" 1 1 _) (wpAny_pure ?_)
  refine wpAny_bind (PySem.W.kdu_collect (A := X.A.in1) (PySem.W.kdl_keys (knd := mixKind X.prog X.w) (kvs := xs) (ep := ep)) (I.ok.hd hc) ⟨hv, hat⟩ (by rw [hl, sizeLine_eq]; omega) fun h1 tk acc hk hacc => ?_)
  have rv : Vals ((kvs.map (·.1)).map kV) acc.toList := by
    refine vals_is (P := X.prog) (w := X.w) (by rw [Array.length_toList, hacc.1, hl, List.length_map]) fun j v e => ?_
    obtain ⟨y, x, e1, e2⟩ := hacc.2 j v (by rw [← Array.getElem?_toList]; exact e)
    exact ⟨y, by rw [← hkeys, List.getElem?_map, e1]; rfl, e2⟩
  have al : acc.toList.length = kvs.length := by rw [Array.length_toList, hacc.1, hl]
  generalize acc.toList = vs at rv al ⊢
  refine wpAny_bind (wpAny_newList ?_ (by rw [al, sizeLine_eq]; omega))
  have hoL : (h1.push (seqObj "list" vs.toArray 0)).get? h1.objs.size = some (seqObj "list" vs.toArray 0) := Heap.get?_push_size _ rfl
  have ea := each_of rv
  have ea2 : PySem.W.EachIs (fun (v : Value) y => ∃ as, Reads (h1.push (seqObj "list" vs.toArray 0)) v (encK y) as ∧ h1.objs.size ∉ as) vs (kvs.map (·.1)) := by
    generalize h1.push (seqObj "list" vs.toArray 0) = g0
    generalize kvs.map (·.1) = ks at ea
    clear hoL al rv
    induction ea with
    | nil => exact .nil
    | cons h t ih => exact .cons ⟨[], encK_reads h, by simp⟩ ih
  refine wpAny_bind (wpAny_holding (PySem.W.list_sort_data (enc := encK) (vs := vs) hoL ea ea2 one.alike (encK_sort _) (by rw [List.length_map, sizeLine_eq]; omega) (fun y hy => ?_) fun out ol oe => ?_))
  · have : (encK y).depth = 0 := by cases y <;> rfl
    rw [this]
    show X.A.in1.units + 1 + 0 < cLine
    have := show X.A.in1.units ≤ X.A.units + 1 from Nat.le_refl _
    omega
  · obtain ⟨c, hc'⟩ := sortedHeap_at (vs := vs) (out := out.toArray) hoL
    have hlen : (((kvs.map (·.1)).mergeSort (PySem.W.dataLe false encK)).map kV).length ≤ sizeLine := by
      rw [List.length_map, List.length_mergeSort, List.length_map, sizeLine_eq]; omega
    have I1 : Inv X pins σ H { s with heap := h1, toks := tk } := I.kept hk
    refine wpAny_pure ⟨_, rfl, .ref h1.objs.size, upd H h1.objs.size (.lst (((kvs.map (·.1)).mergeSort (PySem.W.dataLe false encK)).map kV)), I1.laid (t' := tk) (fun b u e => ?_) (Nat.le_refl _)
      (show ObjOk X.prog X.w _ _ _ (.lst (((kvs.map (·.1)).mergeSort (PySem.W.dataLe false encK)).map kV)) from ⟨hlen, out, c, of_each oe, hc'⟩), rfl, k _ (I1.hok.fresh (Nat.le_refl _))⟩
    have lt := Heap.lt_size e
    rw [sortedHeap_old (Nat.ne_of_lt lt) (by rw [size_push']; exact Nat.lt_succ_of_lt lt)]
    exact Heap.get?_push_of_some _ e
end
end MSX
namespace MS
open PySem L2 M
/-- keys of one kind in order -/
theorem keys_sort {ks : List Ky} (ht : ∀ k ∈ ks, k.t = false) (hs : canSort (ks.map kyD) = true) :
    MSX.OneK (ks.map keyK) ∧ ∃ zs : List Ky, (ks.map keyK).mergeSort (PySem.W.dataLe false MSX.encK) = zs.map keyK ∧ sortD (ks.map kyD) = zs.map kyD ∧ (∀ k ∈ zs, k ∈ ks) := by
  have al : ∀ a ∈ ks, ∀ b ∈ ks, alikeD (kyD a) (kyD b) = true := fun a ha b hb => by
    unfold canSort at hs
    rw [Bool.and_eq_true, List.all_eq_true] at hs
    have h1 := hs.1 (kyD a) (List.mem_map.mpr ⟨a, ha, rfl⟩)
    rw [Bool.and_eq_true, List.all_eq_true] at h1
    exact h1.2 (kyD b) (List.mem_map.mpr ⟨b, hb, rfl⟩)
  have e1 : ∀ k : Ky, k.t = false → toPy (kyD k) = MSX.encK (keyK k) ∧ plainD 5 (kyD k) = true := fun k h => by cases k with
    | i n => exact ⟨rfl, rfl⟩
    | s x => exact ⟨rfl, rfl⟩
    | p l => cases h
  have rel : ∀ a ∈ ks, ∀ b ∈ ks, (!ltD (kyD b) (kyD a)) = PySem.W.dataLe false MSX.encK (keyK a) (keyK b) := fun a ha b hb => by
    have h2 := (ltD_data (kyD b) (kyD a) 5 5 (e1 b (ht b hb)).2 (e1 a (ht a ha)).2 (al b hb a ha)).2
    rw [(e1 b (ht b hb)).1, (e1 a (ht a ha)).1] at h2
    rw [PySem.W.dataLe_eq]
    show _ = !PySem.W.dataLt (MSX.encK (keyK b)) (MSX.encK (keyK a))
    rw [h2]
  refine ⟨?_, ks.mergeSort fun a b => !ltD (kyD b) (kyD a), (List.map_mergeSort rel).symm, (List.map_mergeSort (f := kyD) (r := fun a b => !ltD (kyD b) (kyD a)) (s := fun a b => !ltD b a) fun a ha b hb => rfl).symm, fun k hk => (List.mergeSort_perm ks _).mem_iff.mp hk⟩
  by_cases h : ∃ x, Ky.s x ∈ ks
  · obtain ⟨x, hx⟩ := h
    refine .inr fun k hk => ?_
    obtain ⟨q, hq, rfl⟩ := List.mem_map.mp hk
    have := al _ hx q hq
    cases q with
    | i n => simp [kyD, alikeD] at this
    | s y => exact ⟨_, rfl⟩
    | p l => cases ht _ hq
  · refine .inl fun k hk => ?_
    obtain ⟨q, hq, rfl⟩ := List.mem_map.mp hk
    cases q with
    | i n => exact ⟨_, rfl⟩
    | s y => exact absurd ⟨y, hq⟩ h
    | p l => cases ht _ hq
section
variable {G : G0} {X : Cx} {Wx : WX} {K : Calls} {pos p q apos : Pos} {eo : Expr} {a : DE}
theorem e_keysL_sorted (C : XC G X Wx) (hm : X.mg "sorted" = none) (he : PE X eo (tE G Wx K a)) (hg : Gl X "sorted" := by rfl)
    (hbase : attributeBase eo "keys" X.env (eval eo X.env) = eval eo X.env := by rfl) (hline : (apos.endLine == q.line) = true := by rfl)
    (nb : starEach [.Call (.Attribute eo "keys" apos) [] [] q] X.env = (false, eval (.Call (.Attribute eo "keys" apos) [] [] q) X.env) :: starEach [] X.env := by rfl) :
    PE X (.Call (.Name "sorted" p) [.Call (.Attribute eo "keys" apos) [] [] q] [] pos) (tE G Wx K (.keysL true a)) :=
  (pe_callB (MSX.cr_sortV C.calm (by have := C.hu; omega)) hg hm PyProof.Rows.boot_sorted (pa_cons (MSX.pe_dkeys he hbase hline) pa_nil nb) (by decide) (by decide) nb rfl).imp fun σ H Q ⟨W, s, e, R, ER, P⟩ => by
    simp only [evE] at P
    refine ⟨W, s, e, R, ER, P.bind (rel1 := VR G) fun d s1 W1 x H1 x1 k1 R1 v1 P1 => ?_⟩
    obtain ⟨r, hr, P2⟩ := P1.opt
    unfold keysOf at hr
    cases hq : dctOf s1 d with
    | none => rw [hq] at hr; cases hr
    | some tg =>
      obtain ⟨t, gs⟩ := tg
      cases t with
      | true => rw [hq] at hr; cases hr
      | false =>
        rw [hq] at hr
        simp only [Option.bind_some, if_true] at hr
        split at hr
        · rename_i cs
          cases hr
          obtain ⟨b, rfl, dc⟩ := dct_of R1 v1 hq
          cases dc with
          | @k kvs _ hrd hkr =>
            obtain ⟨g1, g2, g3⟩ := hkr
            have ht : ∀ k ∈ gs.map (·.1), k.t = false := fun k hk => by obtain ⟨x, hx, rfl⟩ := List.mem_map.mp hk; exact (g1 x hx).1
            have em : gs.map (fun p => kyD p.1) = (gs.map (·.1)).map kyD := by rw [List.map_map]; rfl
            rw [Bool.and_eq_true, decide_eq_true_eq] at cs
            rw [em] at cs P2
            obtain ⟨one, zs, z1, z2, z3⟩ := keys_sort ht cs.1
            have ek : kvs.map (·.1) = (gs.map (·.1)).map keyK := by rw [g2, List.map_map]; rfl
            refine ⟨b, kvs, rfl, hrd, fun p0 hp0 => ?_⟩
            refine ⟨p0, b, kvs, rfl, upd_same, ?_, ?_, by rw [ek]; exact one, fun p1 hp1 => ?_⟩
            · rcases hrd with h | ⟨o, h⟩
              · refine .inl ?_
                rw [upd_ne (fun z => by subst z; rw [hp0] at h; cases h)]; exact h
              · refine .inr ⟨o, ?_⟩
                rw [upd_ne (fun z => by subst z; rw [hp0] at h; cases h)]; exact h
            · have := congrArg List.length g2
              rw [List.length_map, List.length_map] at this
              rw [this]; simpa using cs.2
            · have k2 : Keeps W1 H1 (upd H1 p0 (MSX.kviewO p0 b)) := Keeps.new hp0
              have R2 := R1.step (upd_keep (o := MSX.kviewO p0 b) hp0)
              rw [ek, z1]
              obtain ⟨e3, k3, R3, v3⟩ := newL R2 hp1 (kyDs_v (G := G) (W := W1) (H := upd H1 p0 (MSX.kviewO p0 b)) fun k hk => ⟨ht k (z3 k hk), by obtain ⟨x, hx, rfl⟩ := List.mem_map.mp (z3 k hk); exact (g1 x hx).2⟩)
              rw [← z2] at v3
              exact P2 _ _ _ e3 (k2.trans (Ext.refl W1) k3) R3 v3
        · cases hr
end
end MS

set_option Elab.async false
set_option linter.all false
set_option maxRecDepth 100000
set_option maxHeartbeats 2000000
set_option autoImplicit false
namespace Law
open PySem L2 M MS
def top (i : Nat) : Stmt := PySem.Challenge.pw_cellbag_k10_whole_books.main.body.getD i (.Pass ⟨0, 0, 0, 0⟩)
def topM (i j : Nat) : Stmt := match top i with
  | .ClassDef _ _ _ b _ _ _ _ _ _ _ => b.getD j (.Pass ⟨0, 0, 0, 0⟩)
  | s => s
/-- what the written part says -/
structure Fx (G : G0) (mg : Str → Option Value) : Prop extends XFacts G mg where
  g_CELL : ∃ t, mg "CELL" = some (.str (tx [35]) t)
  g_GAP : ∃ t, mg "GAP" = some (.str (tx [46]) t)
  g_MOST_KINDS : ∃ t, mg "MOST_KINDS" = some (.int 30 t)
  g_MOST_NAME : ∃ t, mg "MOST_NAME" = some (.int 8 t)
  g_MOST_PILE : ∃ t, mg "MOST_PILE" = some (.int 99 t)
  g_MOST_SIDE : ∃ t, mg "MOST_SIDE" = some (.int 4 t)
  g_MOST_WEIGHT : ∃ t, mg "MOST_WEIGHT" = some (.int 999 t)
  g_SMALL : ∃ t, mg "SMALL" = some (.str (tx [97, 98, 99, 100, 101, 102, 103, 104, 105, 106, 107, 108, 109, 110, 111, 112, 113, 114, 115, 116, 117, 118, 119, 120, 121, 122]) t)
  b_all : mg "all" = none
  b_any : mg "any" = none
  b_int : mg "int" = none
  b_len : mg "len" = none
  b_max : mg "max" = none
  b_min : mg "min" = none
  b_range : mg "range" = none
  b_set : mg "set" = none
  b_sorted : mg "sorted" = none
  b_tuple : mg "tuple" = none
  c_BagError : mg "BagError" = some (.ref (G.cA 0))
  c_BadShape : mg "BadShape" = some (.ref (G.cA 1))
  c_BadKind : mg "BadKind" = some (.ref (G.cA 2))
  c_BadNumber : mg "BadNumber" = some (.ref (G.cA 3))
  c_BadPlace : mg "BadPlace" = some (.ref (G.cA 4))
  c_BadPile : mg "BadPile" = some (.ref (G.cA 5))
  c_BadSlot : mg "BadSlot" = some (.ref (G.cA 6))
  c_BadText : mg "BadText" = some (.ref (G.cA 7))
  c_Book : mg "Book" = some (.ref (G.cA 18))
  x_BadKind : XMk G 2
  x_BadNumber : XMk G 3
  x_BadShape : XMk G 1
  k_Book : Cls G.K (G.cA 18)
  n_Book_rows : NoAttr G.K (G.cA 18) (tx [114, 111, 119, 115])
  h_Book_add : Meth G.K (G.cA 18) (tx [97, 100, 100]) (G.fA 20)
  h_Book_has_tag : Meth G.K (G.cA 18) (tx [104, 97, 115, 95, 116, 97, 103]) (G.fA 27)
  h_Book_most : Meth G.K (G.cA 18) (tx [109, 111, 115, 116]) (G.fA 24)
  h_Book_names : Meth G.K (G.cA 18) (tx [110, 97, 109, 101, 115]) (G.fA 22)
  h_Book_need : Meth G.K (G.cA 18) (tx [110, 101, 101, 100]) (G.fA 21)
  h_Book_shape : Meth G.K (G.cA 18) (tx [115, 104, 97, 112, 101]) (G.fA 23)
  h_Book_turns : Meth G.K (G.cA 18) (tx [116, 117, 114, 110, 115]) (G.fA 25)
  h_Book_weight : Meth G.K (G.cA 18) (tx [119, 101, 105, 103, 104, 116]) (G.fA 26)
  m_Book : Mk G.K (G.cA 18) (G.fA 19)
  exm : ∀ c, c < 16 → PySem.W.exmOne G.K (.ref (G.cA c)) (.ref (G.cA 0)) = some true
  f_look_shape : mg "look_shape" = some (.ref (G.fA 0))
  f_turn_once : mg "turn_once" = some (.ref (G.fA 1))
  f_turned : mg "turned" = some (.ref (G.fA 2))
  f_turns_of : mg "turns_of" = some (.ref (G.fA 5))
  f_look_name : mg "look_name" = some (.ref (G.fA 18))
  f__law_cell : mg "_law_cell" = some (.ref (G.fA 7))
  f__law_mix : mg "_law_mix" = some (.ref (G.fA 8))
  f__law_draw : mg "_law_draw" = some (.ref (G.fA 9))
  f__law_pick : mg "_law_pick" = some (.ref (G.fA 10))
  f__law_refusal : mg "_law_refusal" = some (.ref (G.fA 11))
  f__law_shape : mg "_law_shape" = some (.ref (G.fA 12))
  f__law_cells : mg "_law_cells" = some (.ref (G.fA 13))
  f__law_turns : mg "_law_turns" = some (.ref (G.fA 15))
  f__law_told : mg "_law_told" = some (.ref (G.fA 28))
  f__law_asked : mg "_law_asked" = some (.ref (G.fA 29))
  f__law_due : mg "_law_due" = some (.ref (G.fA 30))
  f_law : mg "law" = some (.ref (G.fA 31))
abbrev IDS : List Nat := [0, 1, 2, 5, 18, 19, 20, 21, 22, 23, 24, 25, 26, 27, 7, 8, 9, 10, 11, 12, 13, 15, 28, 29, 30, 31]
section
variable {P : Program} {w : World} {G : G0} {mg : Str → Option Value} {base : Heap} {n k : Nat}
abbrev st_look_shape : Stmt := (top 13)
abbrev N_look_shape : List Str := ["shape", "good", "row", "sign", "k"]
theorem sc_look_shape : FnScope N_look_shape ["shape"] (defScope st_look_shape) := ⟨rfl, rfl, rfl, by decide +kernel, rfl, by decide +kernel, by decide +kernel⟩
theorem p_look_shape (T : Fx G mg) (F : ∀ i, i ∈ IDS → ∃ (fd : FuncData) (ps : List Str), FnOk P w G.K mg base (L2.CX P w) k (G.fA i) fd ps (spF G (KF TB n) i) ∧ Binds G.K fd ps [] ∧ PySem.W.keepIn G.K (.ref (G.fA i)) = true)
    (a : Addr) (cdv : Value) (A : Around) (outer : List PySem.Env) (s : Shared) (H : Hp) (E : XK) (hr : Room (k + 1) (A.deeper (PyProof.Rows.envOfC "look_shape" (defScope st_look_shape) s.heap.objs.size a cdv))) :
    PSs (cxOf (L2.CX P w) P w G.K mg base N_look_shape "look_shape" (defScope st_look_shape) a cdv A outer s H E) (defBody st_look_shape) (tSs G (fun cls d _ H => E cls d H) (KF TB n) b_look_shape) := by
  have C : XC G (cxOf (L2.CX P w) P w G.K mg base N_look_shape "look_shape" (defScope st_look_shape) a cdv A outer s H E) (fun cls d _ H => E cls d H) := xc_of hr sc_look_shape.nd
  exact (ss_cons (s_setN C.nd rfl (by first | exact Or.inl rfl | exact Or.inr rfl) (e_and C.K (e_chain (o := .le) (p := .le) C c_int (e_bi (lb_len C.K) rfl T.b_len PySem.boot_len (a_cons (v 0) a_nil rfl) (by decide) (by decide) rfl rfl) (c_gi T.g_MOST_SIDE) rfl) (pe_one (e_chain (o := .le) (p := .le) C c_int (e_bi (lb_len C.K) rfl T.b_len PySem.boot_len (a_cons (e_sub C (v 0) c_int (fun _ _ => rfl) (fun _ _ => rfl)) a_nil rfl) (by decide) (by decide) rfl rfl) (c_gi T.g_MOST_SIDE) rfl))) rfl (by first | exact Or.inl rfl | exact Or.inr rfl))
      (ss_cons (s_if (PW.pt (t_or (t_not (t_truth C.K (v 1) (fun _ => rfl))) (pw_or1 (t_not (t_truth C.K (e_bi (lb_all C.K C.calm) rfl T.b_all PyProof.Rows.boot_all (a_cons (e_lc (own := [("row", 2)]) C ⟨(i_e C.K (v 0)), blk_ok rfl, by decide, fun sB1 HB1 CB1 clB1 fpB1 => (g_one (C.blk sB1 HB1 _ _ fpB1) rfl (by first | exact Or.inl rfl | exact Or.inr rfl) (by first | exact Or.inl rfl | exact Or.inr rfl)), (fun sB1 HB1 CB1 clB1 fpB1 => pts0), fun sB1 HB1 CB1 clB1 fpB1 => (e_cmp (o := .eq) (C.blk sB1 HB1 _ _ fpB1) (e_bi (lb_len (C.blk sB1 HB1 _ _ fpB1).K) rfl T.b_len PySem.boot_len (a_cons (v 2) a_nil rfl) (by decide) (by decide) rfl rfl) (e_bi (lb_len (C.blk sB1 HB1 _ _ fpB1).K) rfl T.b_len PySem.boot_len (a_cons (e_sub (C.blk sB1 HB1 _ _ fpB1) (v 0) c_int (fun _ _ => rfl) (fun _ _ => rfl)) a_nil rfl) (by decide) (by decide) rfl rfl) (nomark _)), fun _ => rfl⟩) a_nil rfl) (by decide) (by decide) rfl rfl) (fun _ => rfl)))))) (ss_cons (s_raise C (raiseX C T.x_BadShape T.c_BadShape rfl (by decide)))
      ss_nil) ss_nil)
      (ss_cons (s_if (t_not (t_truth C.K (e_bi (lb_all C.K C.calm) rfl T.b_all PyProof.Rows.boot_all (a_cons (e_lc (own := [("sign", 3)]) C ⟨(i_e C.K (b_join C (c_str (x := [])) (a_cons (v 0) a_nil rfl) rfl rfl rfl rfl rfl)), blk_ok rfl, by decide, fun sB1 HB1 CB1 clB1 fpB1 => (g_one (C.blk sB1 HB1 _ _ fpB1) rfl (by first | exact Or.inl rfl | exact Or.inr rfl) (by first | exact Or.inl rfl | exact Or.inr rfl)), (fun sB1 HB1 CB1 clB1 fpB1 => pts0), fun sB1 HB1 CB1 clB1 fpB1 => (e_cmp (o := .inn) (C.blk sB1 HB1 _ _ fpB1) (v 3) (e_tup (a_cons (c_gs T.g_CELL) (a_cons (c_gs T.g_GAP) a_nil rfl) rfl)) rfl), fun _ => rfl⟩) a_nil rfl) (by decide) (by decide) rfl rfl) (fun _ => rfl))) (ss_cons (s_raise C (raiseX C T.x_BadShape T.c_BadShape rfl (by decide)))
      ss_nil) ss_nil)
      (ss_cons (s_if (t_not (t_truth C.K (e_bi (lb_all C.K C.calm) rfl T.b_all PyProof.Rows.boot_all (a_cons (e_lc (own := [("row", 2)]) C ⟨(i_e C.K (e_tup (a_cons (e_sub C (v 0) c_int (fun _ _ => rfl) (fun _ _ => rfl)) (a_cons (e_sub C (v 0) c_neg (fun _ _ => rfl) (fun _ _ => rfl)) a_nil rfl) rfl))), blk_ok rfl, by decide, fun sB1 HB1 CB1 clB1 fpB1 => (g_one (C.blk sB1 HB1 _ _ fpB1) rfl (by first | exact Or.inl rfl | exact Or.inr rfl) (by first | exact Or.inl rfl | exact Or.inr rfl)), (fun sB1 HB1 CB1 clB1 fpB1 => pts0), fun sB1 HB1 CB1 clB1 fpB1 => (e_cmp (o := .inn) (C.blk sB1 HB1 _ _ fpB1) (c_gs T.g_CELL) (v 2) rfl), fun _ => rfl⟩) a_nil rfl) (by decide) (by decide) rfl rfl) (fun _ => rfl))) (ss_cons (s_raise C (raiseX C T.x_BadShape T.c_BadShape rfl (by decide)))
      ss_nil) ss_nil)
      (ss_cons (s_if (t_not (t_truth C.K (e_bi (lb_all C.K C.calm) rfl T.b_all PyProof.Rows.boot_all (a_cons (e_lc (own := [("k", 4)]) C ⟨(i_e C.K (e_tup (a_cons c_int (a_cons c_neg a_nil rfl) rfl))), blk_ok rfl, by decide, fun sB1 HB1 CB1 clB1 fpB1 => (g_one (C.blk sB1 HB1 _ _ fpB1) rfl (by first | exact Or.inl rfl | exact Or.inr rfl) (by first | exact Or.inl rfl | exact Or.inr rfl)), (fun sB1 HB1 CB1 clB1 fpB1 => pts0), fun sB1 HB1 CB1 clB1 fpB1 => (e_bi (lb_any (C.blk sB1 HB1 _ _ fpB1).K (C.blk sB1 HB1 _ _ fpB1).calm) rfl T.b_any PyProof.Rows.boot_any (a_cons (e_lc (own := [("row", 2)]) (C.blk sB1 HB1 _ _ fpB1) ⟨(i_e (C.blk sB1 HB1 _ _ fpB1).K (v 0)), blk_ok rfl, by decide, fun sB2 HB2 CB2 clB2 fpB2 => (g_one ((C.blk sB1 HB1 _ _ fpB1).blk sB2 HB2 _ _ fpB2) rfl (by first | exact Or.inl rfl | exact Or.inr rfl) (by first | exact Or.inl rfl | exact Or.inr rfl)), (fun sB2 HB2 CB2 clB2 fpB2 => pts0), fun sB2 HB2 CB2 clB2 fpB2 => (e_cmp (o := .eq) ((C.blk sB1 HB1 _ _ fpB1).blk sB2 HB2 _ _ fpB2) (e_sub ((C.blk sB1 HB1 _ _ fpB1).blk sB2 HB2 _ _ fpB2) (v 2) (v 4) (fun _ _ => rfl) (fun _ _ => rfl)) (c_gs T.g_CELL) (nomark _)), fun _ => rfl⟩) a_nil rfl) (by decide) (by decide) rfl rfl), fun _ => rfl⟩) a_nil rfl) (by decide) (by decide) rfl rfl) (fun _ => rfl))) (ss_cons (s_raise C (raiseX C T.x_BadShape T.c_BadShape rfl (by decide)))
      ss_nil) ss_nil)
      ss_nil)))))
abbrev st_turn_once : Stmt := (top 14)
abbrev N_turn_once : List Str := ["shape", "k", "row"]
theorem sc_turn_once : FnScope N_turn_once ["shape"] (defScope st_turn_once) := ⟨rfl, rfl, rfl, by decide +kernel, rfl, by decide +kernel, by decide +kernel⟩
theorem p_turn_once (T : Fx G mg) (F : ∀ i, i ∈ IDS → ∃ (fd : FuncData) (ps : List Str), FnOk P w G.K mg base (L2.CX P w) k (G.fA i) fd ps (spF G (KF TB n) i) ∧ Binds G.K fd ps [] ∧ PySem.W.keepIn G.K (.ref (G.fA i)) = true)
    (a : Addr) (cdv : Value) (A : Around) (outer : List PySem.Env) (s : Shared) (H : Hp) (E : XK) (hr : Room (k + 1) (A.deeper (PyProof.Rows.envOfC "turn_once" (defScope st_turn_once) s.heap.objs.size a cdv))) :
    PSs (cxOf (L2.CX P w) P w G.K mg base N_turn_once "turn_once" (defScope st_turn_once) a cdv A outer s H E) (defBody st_turn_once) (tSs G (fun cls d _ H => E cls d H) (KF TB n) b_turn_once) := by
  have C : XC G (cxOf (L2.CX P w) P w G.K mg base N_turn_once "turn_once" (defScope st_turn_once) a cdv A outer s H E) (fun cls d _ H => E cls d H) := xc_of hr sc_turn_once.nd
  exact (ss_cons (s_ret (e_biT (lb_tuple C.K) rfl T.b_tuple PyProof.Rows.boot_tuple (a_cons (e_lc (own := [("k", 1)]) C ⟨(i_rng1 rfl T.b_range (a_cons (e_bi (lb_len C.K) rfl T.b_len PySem.boot_len (a_cons (e_sub C (v 0) c_int (fun _ _ => rfl) (fun _ _ => rfl)) a_nil rfl) (by decide) (by decide) rfl rfl) a_nil rfl) rfl), blk_ok rfl, by decide, fun sB1 HB1 CB1 clB1 fpB1 => (g_one (C.blk sB1 HB1 _ _ fpB1) rfl (by first | exact Or.inl rfl | exact Or.inr rfl) (by first | exact Or.inl rfl | exact Or.inr rfl)), (fun sB1 HB1 CB1 clB1 fpB1 => pts0), fun sB1 HB1 CB1 clB1 fpB1 => (b_join (C.blk sB1 HB1 _ _ fpB1) (c_str (x := [])) (a_cons (e_lc (own := [("row", 2)]) (C.blk sB1 HB1 _ _ fpB1) ⟨(i_e (C.blk sB1 HB1 _ _ fpB1).K (e_rev (C.blk sB1 HB1 _ _ fpB1) (v 0))), blk_ok rfl, by decide, fun sB2 HB2 CB2 clB2 fpB2 => (g_one ((C.blk sB1 HB1 _ _ fpB1).blk sB2 HB2 _ _ fpB2) rfl (by first | exact Or.inl rfl | exact Or.inr rfl) (by first | exact Or.inl rfl | exact Or.inr rfl)), (fun sB2 HB2 CB2 clB2 fpB2 => pts0), fun sB2 HB2 CB2 clB2 fpB2 => (e_sub ((C.blk sB1 HB1 _ _ fpB1).blk sB2 HB2 _ _ fpB2) (v 2) (v 1) (fun _ _ => rfl) (fun _ _ => rfl)), fun _ => rfl⟩) a_nil rfl) rfl rfl rfl rfl rfl), fun _ => rfl⟩) a_nil rfl) (by decide) (by decide) rfl rfl))
      ss_nil)
abbrev st_turned : Stmt := (top 15)
abbrev N_turned : List Str := ["shape", "many", "k"]
theorem sc_turned : FnScope N_turned ["shape", "many"] (defScope st_turned) := ⟨rfl, rfl, rfl, by decide +kernel, rfl, by decide +kernel, by decide +kernel⟩
theorem p_turned (T : Fx G mg) (F : ∀ i, i ∈ IDS → ∃ (fd : FuncData) (ps : List Str), FnOk P w G.K mg base (L2.CX P w) k (G.fA i) fd ps (spF G (KF TB n) i) ∧ Binds G.K fd ps [] ∧ PySem.W.keepIn G.K (.ref (G.fA i)) = true)
    (a : Addr) (cdv : Value) (A : Around) (outer : List PySem.Env) (s : Shared) (H : Hp) (E : XK) (hr : Room (k + 1) (A.deeper (PyProof.Rows.envOfC "turned" (defScope st_turned) s.heap.objs.size a cdv))) :
    PSs (cxOf (L2.CX P w) P w G.K mg base N_turned "turned" (defScope st_turned) a cdv A outer s H E) (defBody st_turned) (tSs G (fun cls d _ H => E cls d H) (KF TB n) b_turned) := by
  have hrk : Room k (A.deeper (PyProof.Rows.envOfC "turned" (defScope st_turned) s.heap.objs.size a cdv)) := hr.mono (Nat.le_succ k)
  have C : XC G (cxOf (L2.CX P w) P w G.K mg base N_turned "turned" (defScope st_turned) a cdv A outer s H E) (fun cls d _ H => E cls d H) := xc_of hr sc_turned.nd
  exact (ss_cons (s_expr (e_call C ⟨F 0 (by decide)⟩ hrk rfl T.f_look_shape (a_cons (v 0) a_nil rfl) (by decide) rfl rfl) rfl)
      (ss_cons (s_for0 C own_of (i_rng1 rfl T.b_range (a_cons (e_bin (o := .mod) C (v 1) c_int) a_nil rfl) rfl) (g_one C rfl (by first | exact Or.inl rfl | exact Or.inr rfl) (by first | exact Or.inl rfl | exact Or.inr rfl)) (ss_cons (s_setN C.nd rfl (by first | exact Or.inl rfl | exact Or.inr rfl) (e_call C ⟨F 1 (by decide)⟩ hrk rfl T.f_turn_once (a_cons (v 0) a_nil rfl) (by decide) rfl rfl) rfl (by first | exact Or.inl rfl | exact Or.inr rfl))
      ss_nil) (fun _ => rfl))
      (ss_cons (s_ret (v 0))
      ss_nil)))
abbrev st_turns_of : Stmt := (top 16)
abbrev N_turns_of : List Str := ["shape", "found", "many", "other"]
theorem sc_turns_of : FnScope N_turns_of ["shape"] (defScope st_turns_of) := ⟨rfl, rfl, rfl, by decide +kernel, rfl, by decide +kernel, by decide +kernel⟩
theorem p_turns_of (T : Fx G mg) (F : ∀ i, i ∈ IDS → ∃ (fd : FuncData) (ps : List Str), FnOk P w G.K mg base (L2.CX P w) k (G.fA i) fd ps (spF G (KF TB n) i) ∧ Binds G.K fd ps [] ∧ PySem.W.keepIn G.K (.ref (G.fA i)) = true)
    (a : Addr) (cdv : Value) (A : Around) (outer : List PySem.Env) (s : Shared) (H : Hp) (E : XK) (hr : Room (k + 1) (A.deeper (PyProof.Rows.envOfC "turns_of" (defScope st_turns_of) s.heap.objs.size a cdv))) :
    PSs (cxOf (L2.CX P w) P w G.K mg base N_turns_of "turns_of" (defScope st_turns_of) a cdv A outer s H E) (defBody st_turns_of) (tSs G (fun cls d _ H => E cls d H) (KF TB n) b_turns_of) := by
  have hrk : Room k (A.deeper (PyProof.Rows.envOfC "turns_of" (defScope st_turns_of) s.heap.objs.size a cdv)) := hr.mono (Nat.le_succ k)
  have C : XC G (cxOf (L2.CX P w) P w G.K mg base N_turns_of "turns_of" (defScope st_turns_of) a cdv A outer s H E) (fun cls d _ H => E cls d H) := xc_of hr sc_turns_of.nd
  exact (ss_cons (s_expr (e_call C ⟨F 0 (by decide)⟩ hrk rfl T.f_look_shape (a_cons (v 0) a_nil rfl) (by decide) rfl rfl) rfl)
      (ss_cons (s_setN C.nd rfl (by first | exact Or.inl rfl | exact Or.inr rfl) (e_lst true a_nil) rfl (by first | exact Or.inl rfl | exact Or.inr rfl))
      (ss_cons (s_for0 C own_of (i_rng1 rfl T.b_range (a_cons c_int a_nil rfl) rfl) (g_one C rfl (by first | exact Or.inl rfl | exact Or.inr rfl) (by first | exact Or.inl rfl | exact Or.inr rfl)) (ss_cons (s_if (t_cmp (o := .nin) C (e_call C ⟨F 2 (by decide)⟩ hrk rfl T.f_turned (a_cons (v 0) (a_cons (v 2) a_nil rfl) rfl) (by decide) rfl rfl) (e_lcL (own := [("other", 3)]) C ⟨(i_e C.K (v 1)), blk_ok rfl, by decide, fun sB1 HB1 CB1 clB1 fpB1 => (g_one (C.blk sB1 HB1 _ _ fpB1) rfl (by first | exact Or.inl rfl | exact Or.inr rfl) (by first | exact Or.inl rfl | exact Or.inr rfl)), (fun sB1 HB1 CB1 clB1 fpB1 => pts0), fun sB1 HB1 CB1 clB1 fpB1 => (e_call (C.blk sB1 HB1 _ _ fpB1) ⟨F 2 (by decide)⟩ hrk rfl T.f_turned (a_cons (v 0) (a_cons (v 3) a_nil rfl) rfl) (by decide) rfl rfl), fun _ => rfl⟩) rfl) (ss_cons (s_expr (b_append C (v 1) (a_cons (v 2) a_nil rfl) rfl rfl rfl rfl rfl) rfl)
      ss_nil) ss_nil)
      ss_nil) (fun _ => rfl))
      (ss_cons (s_ret (v 1))
      ss_nil))))
abbrev st_look_name : Stmt := (top 23)
abbrev N_look_name : List Str := ["name", "sign"]
theorem sc_look_name : FnScope N_look_name ["name"] (defScope st_look_name) := ⟨rfl, rfl, rfl, by decide +kernel, rfl, by decide +kernel, by decide +kernel⟩
theorem p_look_name (T : Fx G mg) (F : ∀ i, i ∈ IDS → ∃ (fd : FuncData) (ps : List Str), FnOk P w G.K mg base (L2.CX P w) k (G.fA i) fd ps (spF G (KF TB n) i) ∧ Binds G.K fd ps [] ∧ PySem.W.keepIn G.K (.ref (G.fA i)) = true)
    (a : Addr) (cdv : Value) (A : Around) (outer : List PySem.Env) (s : Shared) (H : Hp) (E : XK) (hr : Room (k + 1) (A.deeper (PyProof.Rows.envOfC "look_name" (defScope st_look_name) s.heap.objs.size a cdv))) :
    PSs (cxOf (L2.CX P w) P w G.K mg base N_look_name "look_name" (defScope st_look_name) a cdv A outer s H E) (defBody st_look_name) (tSs G (fun cls d _ H => E cls d H) (KF TB n) b_look_name) := by
  have C : XC G (cxOf (L2.CX P w) P w G.K mg base N_look_name "look_name" (defScope st_look_name) a cdv A outer s H E) (fun cls d _ H => E cls d H) := xc_of hr sc_look_name.nd
  exact (ss_cons (s_if (PW.pt (t_or (t_not (t_chain (o := .le) (p := .le) C c_int (e_bi (lb_len C.K) rfl T.b_len PySem.boot_len (a_cons (v 0) a_nil rfl) (by decide) (by decide) rfl rfl) (c_gi T.g_MOST_NAME) rfl)) (pw_or1 (t_not (t_truth C.K (e_bi (lb_all C.K C.calm) rfl T.b_all PyProof.Rows.boot_all (a_cons (e_lc (own := [("sign", 1)]) C ⟨(i_e C.K (v 0)), blk_ok rfl, by decide, fun sB1 HB1 CB1 clB1 fpB1 => (g_one (C.blk sB1 HB1 _ _ fpB1) rfl (by first | exact Or.inl rfl | exact Or.inr rfl) (by first | exact Or.inl rfl | exact Or.inr rfl)), (fun sB1 HB1 CB1 clB1 fpB1 => pts0), fun sB1 HB1 CB1 clB1 fpB1 => (e_cmp (o := .inn) (C.blk sB1 HB1 _ _ fpB1) (v 1) (c_gs T.g_SMALL) rfl), fun _ => rfl⟩) a_nil rfl) (by decide) (by decide) rfl rfl) (fun _ => rfl)))))) (ss_cons (s_raise C (raiseX C T.x_BadKind T.c_BadKind rfl (by decide)))
      ss_nil) ss_nil)
      ss_nil)
abbrev st_Book___init__ : Stmt := (topM 24 0)
abbrev N_Book___init__ : List Str := ["self"]
theorem sc_Book___init__ : FnScope N_Book___init__ ["self"] (defScope st_Book___init__) := ⟨rfl, rfl, rfl, by decide +kernel, rfl, by decide +kernel, by decide +kernel⟩
theorem p_Book___init__ (T : Fx G mg) (F : ∀ i, i ∈ IDS → ∃ (fd : FuncData) (ps : List Str), FnOk P w G.K mg base (L2.CX P w) k (G.fA i) fd ps (spF G (KF TB n) i) ∧ Binds G.K fd ps [] ∧ PySem.W.keepIn G.K (.ref (G.fA i)) = true)
    (a : Addr) (cdv : Value) (A : Around) (outer : List PySem.Env) (s : Shared) (H : Hp) (E : XK) (hr : Room (k + 1) (A.deeper (PyProof.Rows.envOfC "Book.__init__" (defScope st_Book___init__) s.heap.objs.size a cdv))) :
    PSs (cxOf (L2.CX P w) P w G.K mg base N_Book___init__ "Book.__init__" (defScope st_Book___init__) a cdv A outer s H E) (defBody st_Book___init__) (tSs G (fun cls d _ H => E cls d H) (KF TB n) b_Book___init__) := by
  have C : XC G (cxOf (L2.CX P w) P w G.K mg base N_Book___init__ "Book.__init__" (defScope st_Book___init__) a cdv A outer s H E) (fun cls d _ H => E cls d H) := xc_of hr sc_Book___init__.nd
  exact (ss_cons (s_setA C T.k_Book T.n_Book_rows (v 0) (e_dct0 false) rfl)
      ss_nil)
abbrev st_Book_add : Stmt := (topM 24 1)
abbrev N_Book_add : List Str := ["self", "name", "shape", "most", "may_turn", "weight", "tags", "tag"]
theorem sc_Book_add : FnScope N_Book_add ["self", "name", "shape", "most", "may_turn", "weight", "tags"] (defScope st_Book_add) := ⟨rfl, rfl, rfl, by decide +kernel, rfl, by decide +kernel, by decide +kernel⟩
theorem p_Book_add (T : Fx G mg) (F : ∀ i, i ∈ IDS → ∃ (fd : FuncData) (ps : List Str), FnOk P w G.K mg base (L2.CX P w) k (G.fA i) fd ps (spF G (KF TB n) i) ∧ Binds G.K fd ps [] ∧ PySem.W.keepIn G.K (.ref (G.fA i)) = true)
    (a : Addr) (cdv : Value) (A : Around) (outer : List PySem.Env) (s : Shared) (H : Hp) (E : XK) (hr : Room (k + 1) (A.deeper (PyProof.Rows.envOfC "Book.add" (defScope st_Book_add) s.heap.objs.size a cdv))) :
    PSs (cxOf (L2.CX P w) P w G.K mg base N_Book_add "Book.add" (defScope st_Book_add) a cdv A outer s H E) (defBody st_Book_add) (tSs G (fun cls d _ H => E cls d H) (KF TB n) b_Book_add) := by
  have hrk : Room k (A.deeper (PyProof.Rows.envOfC "Book.add" (defScope st_Book_add) s.heap.objs.size a cdv)) := hr.mono (Nat.le_succ k)
  have C : XC G (cxOf (L2.CX P w) P w G.K mg base N_Book_add "Book.add" (defScope st_Book_add) a cdv A outer s H E) (fun cls d _ H => E cls d H) := xc_of hr sc_Book_add.nd
  exact (ss_cons (s_expr (e_call C ⟨F 18 (by decide)⟩ hrk rfl T.f_look_name (a_cons (v 1) a_nil rfl) (by decide) rfl rfl) rfl)
      (ss_cons (s_if (PW.pt (t_or (t_cmp (o := .inn) C (v 1) (e_att C T.k_Book T.n_Book_rows (v 0) rfl) rfl) (pw_or1 (t_cmp (o := .eq) C (e_bi (lb_len C.K) rfl T.b_len PySem.boot_len (a_cons (e_att C T.k_Book T.n_Book_rows (v 0) rfl) a_nil rfl) (by decide) (by decide) rfl rfl) (c_gi T.g_MOST_KINDS) (nomark _))))) (ss_cons (s_raise C (raiseX C T.x_BadKind T.c_BadKind rfl (by decide)))
      ss_nil) ss_nil)
      (ss_cons (s_expr (e_call C ⟨F 0 (by decide)⟩ hrk rfl T.f_look_shape (a_cons (v 2) a_nil rfl) (by decide) rfl rfl) rfl)
      (ss_cons (s_if (PW.pt (t_or (t_not (t_chain (o := .le) (p := .le) C c_int (v 3) (c_gi T.g_MOST_PILE) rfl)) (pw_or1 (t_not (t_chain (o := .le) (p := .le) C c_int (v 5) (c_gi T.g_MOST_WEIGHT) rfl))))) (ss_cons (s_raise C (raiseX C T.x_BadNumber T.c_BadNumber rfl (by decide)))
      ss_nil) ss_nil)
      (ss_cons (s_for0 C own_of (i_e C.K (v 6)) (g_one C rfl (by first | exact Or.inl rfl | exact Or.inr rfl) (by first | exact Or.inl rfl | exact Or.inr rfl)) (ss_cons (s_expr (e_call C ⟨F 18 (by decide)⟩ hrk rfl T.f_look_name (a_cons (v 7) a_nil rfl) (by decide) rfl rfl) rfl)
      ss_nil) (fun _ => rfl))
      (ss_cons (s_setI C (e_att C T.k_Book T.n_Book_rows (v 0) rfl) (v 1) (e_tup (a_cons (v 2) (a_cons (v 3) (a_cons (v 4) (a_cons (v 5) (a_cons (e_biT (lb_tuple C.K) rfl T.b_tuple PyProof.Rows.boot_tuple (a_cons (e_setSorted C T.b_sorted T.b_set (v 6)) a_nil rfl) (by decide) (by decide) rfl rfl) a_nil rfl) rfl) rfl) rfl) rfl)) rfl rfl rfl (fun _ => rfl))
      ss_nil))))))
abbrev st_Book_need : Stmt := (topM 24 2)
abbrev N_Book_need : List Str := ["self", "name"]
theorem sc_Book_need : FnScope N_Book_need ["self", "name"] (defScope st_Book_need) := ⟨rfl, rfl, rfl, by decide +kernel, rfl, by decide +kernel, by decide +kernel⟩
theorem p_Book_need (T : Fx G mg) (F : ∀ i, i ∈ IDS → ∃ (fd : FuncData) (ps : List Str), FnOk P w G.K mg base (L2.CX P w) k (G.fA i) fd ps (spF G (KF TB n) i) ∧ Binds G.K fd ps [] ∧ PySem.W.keepIn G.K (.ref (G.fA i)) = true)
    (a : Addr) (cdv : Value) (A : Around) (outer : List PySem.Env) (s : Shared) (H : Hp) (E : XK) (hr : Room (k + 1) (A.deeper (PyProof.Rows.envOfC "Book.need" (defScope st_Book_need) s.heap.objs.size a cdv))) :
    PSs (cxOf (L2.CX P w) P w G.K mg base N_Book_need "Book.need" (defScope st_Book_need) a cdv A outer s H E) (defBody st_Book_need) (tSs G (fun cls d _ H => E cls d H) (KF TB n) b_Book_need) := by
  have C : XC G (cxOf (L2.CX P w) P w G.K mg base N_Book_need "Book.need" (defScope st_Book_need) a cdv A outer s H E) (fun cls d _ H => E cls d H) := xc_of hr sc_Book_need.nd
  exact (ss_cons (s_if (t_cmp (o := .nin) C (v 1) (e_att C T.k_Book T.n_Book_rows (v 0) rfl) rfl) (ss_cons (s_raise C (raiseX C T.x_BadKind T.c_BadKind rfl (by decide)))
      ss_nil) ss_nil)
      ss_nil)
abbrev st_Book_names : Stmt := (topM 24 3)
abbrev N_Book_names : List Str := ["self"]
theorem sc_Book_names : FnScope N_Book_names ["self"] (defScope st_Book_names) := ⟨rfl, rfl, rfl, by decide +kernel, rfl, by decide +kernel, by decide +kernel⟩
theorem p_Book_names (T : Fx G mg) (F : ∀ i, i ∈ IDS → ∃ (fd : FuncData) (ps : List Str), FnOk P w G.K mg base (L2.CX P w) k (G.fA i) fd ps (spF G (KF TB n) i) ∧ Binds G.K fd ps [] ∧ PySem.W.keepIn G.K (.ref (G.fA i)) = true)
    (a : Addr) (cdv : Value) (A : Around) (outer : List PySem.Env) (s : Shared) (H : Hp) (E : XK) (hr : Room (k + 1) (A.deeper (PyProof.Rows.envOfC "Book.names" (defScope st_Book_names) s.heap.objs.size a cdv))) :
    PSs (cxOf (L2.CX P w) P w G.K mg base N_Book_names "Book.names" (defScope st_Book_names) a cdv A outer s H E) (defBody st_Book_names) (tSs G (fun cls d _ H => E cls d H) (KF TB n) b_Book_names) := by
  have C : XC G (cxOf (L2.CX P w) P w G.K mg base N_Book_names "Book.names" (defScope st_Book_names) a cdv A outer s H E) (fun cls d _ H => E cls d H) := xc_of hr sc_Book_names.nd
  exact (ss_cons (s_ret (e_keysL_sorted C T.b_sorted (e_att C T.k_Book T.n_Book_rows (v 0) rfl)))
      ss_nil)
abbrev st_Book_shape : Stmt := (topM 24 4)
abbrev N_Book_shape : List Str := ["self", "name"]
theorem sc_Book_shape : FnScope N_Book_shape ["self", "name"] (defScope st_Book_shape) := ⟨rfl, rfl, rfl, by decide +kernel, rfl, by decide +kernel, by decide +kernel⟩
theorem p_Book_shape (T : Fx G mg) (F : ∀ i, i ∈ IDS → ∃ (fd : FuncData) (ps : List Str), FnOk P w G.K mg base (L2.CX P w) k (G.fA i) fd ps (spF G (KF TB n) i) ∧ Binds G.K fd ps [] ∧ PySem.W.keepIn G.K (.ref (G.fA i)) = true)
    (a : Addr) (cdv : Value) (A : Around) (outer : List PySem.Env) (s : Shared) (H : Hp) (E : XK) (hr : Room (k + 1) (A.deeper (PyProof.Rows.envOfC "Book.shape" (defScope st_Book_shape) s.heap.objs.size a cdv))) :
    PSs (cxOf (L2.CX P w) P w G.K mg base N_Book_shape "Book.shape" (defScope st_Book_shape) a cdv A outer s H E) (defBody st_Book_shape) (tSs G (fun cls d _ H => E cls d H) (KF TB n) b_Book_shape) := by
  have hrk : Room k (A.deeper (PyProof.Rows.envOfC "Book.shape" (defScope st_Book_shape) s.heap.objs.size a cdv)) := hr.mono (Nat.le_succ k)
  have C : XC G (cxOf (L2.CX P w) P w G.K mg base N_Book_shape "Book.shape" (defScope st_Book_shape) a cdv A outer s H E) (fun cls d _ H => E cls d H) := xc_of hr sc_Book_shape.nd
  exact (ss_cons (s_expr (e_meth C ⟨F 21 (by decide)⟩ hrk (v 0) T.k_Book T.h_Book_need (a_cons (v 1) a_nil rfl) rfl rfl rfl) rfl)
      (ss_cons (s_ret (e_sub C (e_sub C (e_att C T.k_Book T.n_Book_rows (v 0) rfl) (v 1) (fun _ _ => rfl) (fun _ _ => rfl)) c_int (fun _ _ => rfl) (fun _ _ => rfl)))
      ss_nil))
abbrev st_Book_most : Stmt := (topM 24 5)
abbrev N_Book_most : List Str := ["self", "name"]
theorem sc_Book_most : FnScope N_Book_most ["self", "name"] (defScope st_Book_most) := ⟨rfl, rfl, rfl, by decide +kernel, rfl, by decide +kernel, by decide +kernel⟩
theorem p_Book_most (T : Fx G mg) (F : ∀ i, i ∈ IDS → ∃ (fd : FuncData) (ps : List Str), FnOk P w G.K mg base (L2.CX P w) k (G.fA i) fd ps (spF G (KF TB n) i) ∧ Binds G.K fd ps [] ∧ PySem.W.keepIn G.K (.ref (G.fA i)) = true)
    (a : Addr) (cdv : Value) (A : Around) (outer : List PySem.Env) (s : Shared) (H : Hp) (E : XK) (hr : Room (k + 1) (A.deeper (PyProof.Rows.envOfC "Book.most" (defScope st_Book_most) s.heap.objs.size a cdv))) :
    PSs (cxOf (L2.CX P w) P w G.K mg base N_Book_most "Book.most" (defScope st_Book_most) a cdv A outer s H E) (defBody st_Book_most) (tSs G (fun cls d _ H => E cls d H) (KF TB n) b_Book_most) := by
  have hrk : Room k (A.deeper (PyProof.Rows.envOfC "Book.most" (defScope st_Book_most) s.heap.objs.size a cdv)) := hr.mono (Nat.le_succ k)
  have C : XC G (cxOf (L2.CX P w) P w G.K mg base N_Book_most "Book.most" (defScope st_Book_most) a cdv A outer s H E) (fun cls d _ H => E cls d H) := xc_of hr sc_Book_most.nd
  exact (ss_cons (s_expr (e_meth C ⟨F 21 (by decide)⟩ hrk (v 0) T.k_Book T.h_Book_need (a_cons (v 1) a_nil rfl) rfl rfl rfl) rfl)
      (ss_cons (s_ret (e_sub C (e_sub C (e_att C T.k_Book T.n_Book_rows (v 0) rfl) (v 1) (fun _ _ => rfl) (fun _ _ => rfl)) c_int (fun _ _ => rfl) (fun _ _ => rfl)))
      ss_nil))
abbrev st_Book_turns : Stmt := (topM 24 6)
abbrev N_Book_turns : List Str := ["self", "name"]
theorem sc_Book_turns : FnScope N_Book_turns ["self", "name"] (defScope st_Book_turns) := ⟨rfl, rfl, rfl, by decide +kernel, rfl, by decide +kernel, by decide +kernel⟩
theorem p_Book_turns (T : Fx G mg) (F : ∀ i, i ∈ IDS → ∃ (fd : FuncData) (ps : List Str), FnOk P w G.K mg base (L2.CX P w) k (G.fA i) fd ps (spF G (KF TB n) i) ∧ Binds G.K fd ps [] ∧ PySem.W.keepIn G.K (.ref (G.fA i)) = true)
    (a : Addr) (cdv : Value) (A : Around) (outer : List PySem.Env) (s : Shared) (H : Hp) (E : XK) (hr : Room (k + 1) (A.deeper (PyProof.Rows.envOfC "Book.turns" (defScope st_Book_turns) s.heap.objs.size a cdv))) :
    PSs (cxOf (L2.CX P w) P w G.K mg base N_Book_turns "Book.turns" (defScope st_Book_turns) a cdv A outer s H E) (defBody st_Book_turns) (tSs G (fun cls d _ H => E cls d H) (KF TB n) b_Book_turns) := by
  have hrk : Room k (A.deeper (PyProof.Rows.envOfC "Book.turns" (defScope st_Book_turns) s.heap.objs.size a cdv)) := hr.mono (Nat.le_succ k)
  have C : XC G (cxOf (L2.CX P w) P w G.K mg base N_Book_turns "Book.turns" (defScope st_Book_turns) a cdv A outer s H E) (fun cls d _ H => E cls d H) := xc_of hr sc_Book_turns.nd
  exact (ss_cons (s_expr (e_meth C ⟨F 21 (by decide)⟩ hrk (v 0) T.k_Book T.h_Book_need (a_cons (v 1) a_nil rfl) rfl rfl rfl) rfl)
      (ss_cons (s_ret (e_ifx (t_truth C.K (e_sub C (e_sub C (e_att C T.k_Book T.n_Book_rows (v 0) rfl) (v 1) (fun _ _ => rfl) (fun _ _ => rfl)) c_int (fun _ _ => rfl) (fun _ _ => rfl)) (fun _ => rfl)) (e_call C ⟨F 5 (by decide)⟩ hrk rfl T.f_turns_of (a_cons (e_sub C (e_sub C (e_att C T.k_Book T.n_Book_rows (v 0) rfl) (v 1) (fun _ _ => rfl) (fun _ _ => rfl)) c_int (fun _ _ => rfl) (fun _ _ => rfl)) a_nil rfl) (by decide) rfl rfl) (e_lst false (a_cons c_int a_nil rfl))))
      ss_nil))
abbrev st_Book_weight : Stmt := (topM 24 7)
abbrev N_Book_weight : List Str := ["self", "name"]
theorem sc_Book_weight : FnScope N_Book_weight ["self", "name"] (defScope st_Book_weight) := ⟨rfl, rfl, rfl, by decide +kernel, rfl, by decide +kernel, by decide +kernel⟩
theorem p_Book_weight (T : Fx G mg) (F : ∀ i, i ∈ IDS → ∃ (fd : FuncData) (ps : List Str), FnOk P w G.K mg base (L2.CX P w) k (G.fA i) fd ps (spF G (KF TB n) i) ∧ Binds G.K fd ps [] ∧ PySem.W.keepIn G.K (.ref (G.fA i)) = true)
    (a : Addr) (cdv : Value) (A : Around) (outer : List PySem.Env) (s : Shared) (H : Hp) (E : XK) (hr : Room (k + 1) (A.deeper (PyProof.Rows.envOfC "Book.weight" (defScope st_Book_weight) s.heap.objs.size a cdv))) :
    PSs (cxOf (L2.CX P w) P w G.K mg base N_Book_weight "Book.weight" (defScope st_Book_weight) a cdv A outer s H E) (defBody st_Book_weight) (tSs G (fun cls d _ H => E cls d H) (KF TB n) b_Book_weight) := by
  have hrk : Room k (A.deeper (PyProof.Rows.envOfC "Book.weight" (defScope st_Book_weight) s.heap.objs.size a cdv)) := hr.mono (Nat.le_succ k)
  have C : XC G (cxOf (L2.CX P w) P w G.K mg base N_Book_weight "Book.weight" (defScope st_Book_weight) a cdv A outer s H E) (fun cls d _ H => E cls d H) := xc_of hr sc_Book_weight.nd
  exact (ss_cons (s_expr (e_meth C ⟨F 21 (by decide)⟩ hrk (v 0) T.k_Book T.h_Book_need (a_cons (v 1) a_nil rfl) rfl rfl rfl) rfl)
      (ss_cons (s_ret (e_sub C (e_sub C (e_att C T.k_Book T.n_Book_rows (v 0) rfl) (v 1) (fun _ _ => rfl) (fun _ _ => rfl)) c_int (fun _ _ => rfl) (fun _ _ => rfl)))
      ss_nil))
abbrev st_Book_has_tag : Stmt := (topM 24 8)
abbrev N_Book_has_tag : List Str := ["self", "name", "tag"]
theorem sc_Book_has_tag : FnScope N_Book_has_tag ["self", "name", "tag"] (defScope st_Book_has_tag) := ⟨rfl, rfl, rfl, by decide +kernel, rfl, by decide +kernel, by decide +kernel⟩
theorem p_Book_has_tag (T : Fx G mg) (F : ∀ i, i ∈ IDS → ∃ (fd : FuncData) (ps : List Str), FnOk P w G.K mg base (L2.CX P w) k (G.fA i) fd ps (spF G (KF TB n) i) ∧ Binds G.K fd ps [] ∧ PySem.W.keepIn G.K (.ref (G.fA i)) = true)
    (a : Addr) (cdv : Value) (A : Around) (outer : List PySem.Env) (s : Shared) (H : Hp) (E : XK) (hr : Room (k + 1) (A.deeper (PyProof.Rows.envOfC "Book.has_tag" (defScope st_Book_has_tag) s.heap.objs.size a cdv))) :
    PSs (cxOf (L2.CX P w) P w G.K mg base N_Book_has_tag "Book.has_tag" (defScope st_Book_has_tag) a cdv A outer s H E) (defBody st_Book_has_tag) (tSs G (fun cls d _ H => E cls d H) (KF TB n) b_Book_has_tag) := by
  have hrk : Room k (A.deeper (PyProof.Rows.envOfC "Book.has_tag" (defScope st_Book_has_tag) s.heap.objs.size a cdv)) := hr.mono (Nat.le_succ k)
  have C : XC G (cxOf (L2.CX P w) P w G.K mg base N_Book_has_tag "Book.has_tag" (defScope st_Book_has_tag) a cdv A outer s H E) (fun cls d _ H => E cls d H) := xc_of hr sc_Book_has_tag.nd
  exact (ss_cons (s_expr (e_meth C ⟨F 21 (by decide)⟩ hrk (v 0) T.k_Book T.h_Book_need (a_cons (v 1) a_nil rfl) rfl rfl rfl) rfl)
      (ss_cons (s_ret (e_cmp (o := .inn) C (v 2) (e_sub C (e_sub C (e_att C T.k_Book T.n_Book_rows (v 0) rfl) (v 1) (fun _ _ => rfl) (fun _ _ => rfl)) c_int (fun _ _ => rfl) (fun _ _ => rfl)) rfl))
      ss_nil))
abbrev st__law_cell : Stmt := (top 26)
abbrev N__law_cell : List Str := ["_law_script", "_law_k"]
theorem sc__law_cell : FnScope N__law_cell ["_law_script", "_law_k"] (defScope st__law_cell) := ⟨rfl, rfl, rfl, by decide +kernel, rfl, by decide +kernel, by decide +kernel⟩
theorem p__law_cell (T : Fx G mg) (F : ∀ i, i ∈ IDS → ∃ (fd : FuncData) (ps : List Str), FnOk P w G.K mg base (L2.CX P w) k (G.fA i) fd ps (spF G (KF TB n) i) ∧ Binds G.K fd ps [] ∧ PySem.W.keepIn G.K (.ref (G.fA i)) = true)
    (a : Addr) (cdv : Value) (A : Around) (outer : List PySem.Env) (s : Shared) (H : Hp) (E : XK) (hr : Room (k + 1) (A.deeper (PyProof.Rows.envOfC "_law_cell" (defScope st__law_cell) s.heap.objs.size a cdv))) :
    PSs (cxOf (L2.CX P w) P w G.K mg base N__law_cell "_law_cell" (defScope st__law_cell) a cdv A outer s H E) (defBody st__law_cell) (tSs G (fun cls d _ H => E cls d H) (KF TB n) b__law_cell) := by
  have C : XC G (cxOf (L2.CX P w) P w G.K mg base N__law_cell "_law_cell" (defScope st__law_cell) a cdv A outer s H E) (fun cls d _ H => E cls d H) := xc_of hr sc__law_cell.nd
  exact (ss_cons (s_if (t_truth C.K (v 0) (fun _ => rfl)) (ss_cons (s_ret (e_sub C (v 0) (e_bin (o := .mod) C (v 1) (e_bi (lb_len C.K) rfl T.b_len PySem.boot_len (a_cons (v 0) a_nil rfl) (by decide) (by decide) rfl rfl)) (fun _ _ => rfl) (fun _ _ => rfl)))
      ss_nil) ss_nil)
      (ss_cons (s_ret c_int)
      ss_nil))
abbrev st__law_mix : Stmt := (top 27)
abbrev N__law_mix : List Str := ["_law_script", "_law_k", "_law_number"]
theorem sc__law_mix : FnScope N__law_mix ["_law_script", "_law_k"] (defScope st__law_mix) := ⟨rfl, rfl, rfl, by decide +kernel, rfl, by decide +kernel, by decide +kernel⟩
theorem p__law_mix (T : Fx G mg) (F : ∀ i, i ∈ IDS → ∃ (fd : FuncData) (ps : List Str), FnOk P w G.K mg base (L2.CX P w) k (G.fA i) fd ps (spF G (KF TB n) i) ∧ Binds G.K fd ps [] ∧ PySem.W.keepIn G.K (.ref (G.fA i)) = true)
    (a : Addr) (cdv : Value) (A : Around) (outer : List PySem.Env) (s : Shared) (H : Hp) (E : XK) (hr : Room (k + 1) (A.deeper (PyProof.Rows.envOfC "_law_mix" (defScope st__law_mix) s.heap.objs.size a cdv))) :
    PSs (cxOf (L2.CX P w) P w G.K mg base N__law_mix "_law_mix" (defScope st__law_mix) a cdv A outer s H E) (defBody st__law_mix) (tSs G (fun cls d _ H => E cls d H) (KF TB n) b__law_mix) := by
  have hrk : Room k (A.deeper (PyProof.Rows.envOfC "_law_mix" (defScope st__law_mix) s.heap.objs.size a cdv)) := hr.mono (Nat.le_succ k)
  have C : XC G (cxOf (L2.CX P w) P w G.K mg base N__law_mix "_law_mix" (defScope st__law_mix) a cdv A outer s H E) (fun cls d _ H => E cls d H) := xc_of hr sc__law_mix.nd
  exact (ss_cons (s_setN C.nd rfl (by first | exact Or.inl rfl | exact Or.inr rfl) (e_bin (o := .mod) C (e_bin (o := .add) C (e_call C ⟨F 7 (by decide)⟩ hrk rfl T.f__law_cell (a_cons (v 0) (a_cons (v 1) a_nil rfl) rfl) (by decide) rfl rfl) (e_bin (o := .mul) C c_int (e_bin (o := .add) C (v 1) c_int))) c_int) rfl (by first | exact Or.inl rfl | exact Or.inr rfl))
      (ss_cons (s_setN C.nd rfl (by first | exact Or.inl rfl | exact Or.inr rfl) (e_bin (o := .mod) C (e_bin (o := .pow) C (v 2) c_int) c_int) rfl (by first | exact Or.inl rfl | exact Or.inr rfl))
      (ss_cons (s_ret (e_bin (o := .mod) C (e_bin (o := .add) C (e_bin (o := .mul) C (e_bin (o := .fdiv) C (v 2) c_int) c_int) (v 2)) c_int))
      ss_nil)))
abbrev st__law_draw : Stmt := (top 28)
abbrev N__law_draw : List Str := ["_law_script", "_law_town", "_law_many"]
theorem sc__law_draw : FnScope N__law_draw ["_law_script", "_law_town", "_law_many"] (defScope st__law_draw) := ⟨rfl, rfl, rfl, by decide +kernel, rfl, by decide +kernel, by decide +kernel⟩
theorem p__law_draw (T : Fx G mg) (F : ∀ i, i ∈ IDS → ∃ (fd : FuncData) (ps : List Str), FnOk P w G.K mg base (L2.CX P w) k (G.fA i) fd ps (spF G (KF TB n) i) ∧ Binds G.K fd ps [] ∧ PySem.W.keepIn G.K (.ref (G.fA i)) = true)
    (a : Addr) (cdv : Value) (A : Around) (outer : List PySem.Env) (s : Shared) (H : Hp) (E : XK) (hr : Room (k + 1) (A.deeper (PyProof.Rows.envOfC "_law_draw" (defScope st__law_draw) s.heap.objs.size a cdv))) :
    PSs (cxOf (L2.CX P w) P w G.K mg base N__law_draw "_law_draw" (defScope st__law_draw) a cdv A outer s H E) (defBody st__law_draw) (tSs G (fun cls d _ H => E cls d H) (KF TB n) b__law_draw) := by
  have hrk : Room k (A.deeper (PyProof.Rows.envOfC "_law_draw" (defScope st__law_draw) s.heap.objs.size a cdv)) := hr.mono (Nat.le_succ k)
  have C : XC G (cxOf (L2.CX P w) P w G.K mg base N__law_draw "_law_draw" (defScope st__law_draw) a cdv A outer s H E) (fun cls d _ H => E cls d H) := xc_of hr sc__law_draw.nd
  exact (ss_cons (s_expr (b_append C (v 1) (a_cons c_int a_nil rfl) rfl rfl rfl rfl rfl) rfl)
      (ss_cons (s_ret (e_bin (o := .mod) C (e_bin (o := .fdiv) C (e_call C ⟨F 8 (by decide)⟩ hrk rfl T.f__law_mix (a_cons (v 0) (a_cons (e_bi (lb_len C.K) rfl T.b_len PySem.boot_len (a_cons (v 1) a_nil rfl) (by decide) (by decide) rfl rfl) a_nil rfl) rfl) (by decide) rfl rfl) c_int) (v 2)))
      ss_nil))
abbrev st__law_pick : Stmt := (top 29)
abbrev N__law_pick : List Str := ["_law_script", "_law_town", "_law_some"]
theorem sc__law_pick : FnScope N__law_pick ["_law_script", "_law_town", "_law_some"] (defScope st__law_pick) := ⟨rfl, rfl, rfl, by decide +kernel, rfl, by decide +kernel, by decide +kernel⟩
theorem p__law_pick (T : Fx G mg) (F : ∀ i, i ∈ IDS → ∃ (fd : FuncData) (ps : List Str), FnOk P w G.K mg base (L2.CX P w) k (G.fA i) fd ps (spF G (KF TB n) i) ∧ Binds G.K fd ps [] ∧ PySem.W.keepIn G.K (.ref (G.fA i)) = true)
    (a : Addr) (cdv : Value) (A : Around) (outer : List PySem.Env) (s : Shared) (H : Hp) (E : XK) (hr : Room (k + 1) (A.deeper (PyProof.Rows.envOfC "_law_pick" (defScope st__law_pick) s.heap.objs.size a cdv))) :
    PSs (cxOf (L2.CX P w) P w G.K mg base N__law_pick "_law_pick" (defScope st__law_pick) a cdv A outer s H E) (defBody st__law_pick) (tSs G (fun cls d _ H => E cls d H) (KF TB n) b__law_pick) := by
  have hrk : Room k (A.deeper (PyProof.Rows.envOfC "_law_pick" (defScope st__law_pick) s.heap.objs.size a cdv)) := hr.mono (Nat.le_succ k)
  have C : XC G (cxOf (L2.CX P w) P w G.K mg base N__law_pick "_law_pick" (defScope st__law_pick) a cdv A outer s H E) (fun cls d _ H => E cls d H) := xc_of hr sc__law_pick.nd
  exact (ss_cons (s_ret (e_sub C (v 2) (e_call C ⟨F 9 (by decide)⟩ hrk rfl T.f__law_draw (a_cons (v 0) (a_cons (v 1) (a_cons (e_bi (lb_len C.K) rfl T.b_len PySem.boot_len (a_cons (v 2) a_nil rfl) (by decide) (by decide) rfl rfl) a_nil rfl) rfl) rfl) (by decide) rfl rfl) (fun _ _ => rfl) (fun _ _ => rfl)))
      ss_nil)
abbrev st__law_refusal : Stmt := (top 30)
abbrev N__law_refusal : List Str := ["_law_held", "_law_kinds"]
theorem sc__law_refusal : FnScope N__law_refusal ["_law_held"] (defScope st__law_refusal) := ⟨rfl, rfl, rfl, by decide +kernel, rfl, by decide +kernel, by decide +kernel⟩
theorem p__law_refusal (T : Fx G mg) (F : ∀ i, i ∈ IDS → ∃ (fd : FuncData) (ps : List Str), FnOk P w G.K mg base (L2.CX P w) k (G.fA i) fd ps (spF G (KF TB n) i) ∧ Binds G.K fd ps [] ∧ PySem.W.keepIn G.K (.ref (G.fA i)) = true)
    (a : Addr) (cdv : Value) (A : Around) (outer : List PySem.Env) (s : Shared) (H : Hp) (E : XK) (hr : Room (k + 1) (A.deeper (PyProof.Rows.envOfC "_law_refusal" (defScope st__law_refusal) s.heap.objs.size a cdv))) :
    PSs (cxOf (L2.CX P w) P w G.K mg base N__law_refusal "_law_refusal" (defScope st__law_refusal) a cdv A outer s H E) (defBody st__law_refusal) (tSs G (fun cls d _ H => E cls d H) (KF TB n) b__law_refusal) := by
  have C : XC G (cxOf (L2.CX P w) P w G.K mg base N__law_refusal "_law_refusal" (defScope st__law_refusal) a cdv A outer s H E) (fun cls d _ H => E cls d H) := xc_of hr sc__law_refusal.nd
  exact (ss_cons (s_if (t_cmp (o := .isN) C (v 0) c_non (nomark _)) (ss_cons (s_ret (e_tup (a_cons (c_str (x := [111, 107])) a_nil rfl)))
      ss_nil) ss_nil)
      (ss_cons (s_setN C.nd rfl (by first | exact Or.inl rfl | exact Or.inr rfl) (e_lst true (a_cons (isC C T.toXFacts 1 (by decide) T.c_BadShape (v 0)) (a_cons (isC C T.toXFacts 2 (by decide) T.c_BadKind (v 0)) (a_cons (isC C T.toXFacts 3 (by decide) T.c_BadNumber (v 0)) a_nil rfl) rfl) rfl)) rfl (by first | exact Or.inl rfl | exact Or.inr rfl))
      (ss_cons (s_setN C.nd rfl (by first | exact Or.inl rfl | exact Or.inr rfl) (e_cat C (v 1) (e_lst false (a_cons (isC C T.toXFacts 4 (by decide) T.c_BadPlace (v 0)) (a_cons (isC C T.toXFacts 5 (by decide) T.c_BadPile (v 0)) (a_cons (isC C T.toXFacts 6 (by decide) T.c_BadSlot (v 0)) a_nil rfl) rfl) rfl))) rfl (by first | exact Or.inl rfl | exact Or.inr rfl))
      (ss_cons (s_expr (b_append C (v 1) (a_cons (isC C T.toXFacts 7 (by decide) T.c_BadText (v 0)) a_nil rfl) rfl rfl rfl rfl rfl) rfl)
      (ss_cons (s_if (PW.pt (t_or (t_cmp (o := .ne) C (b_count C (v 1) (a_cons c_bl a_nil rfl) rfl rfl rfl rfl rfl) c_int (nomark _)) (pw_or1 (t_not (t_truth C.K (isV C T.toXFacts (v 0)) (fun _ => rfl)))))) (ss_cons (s_ret (e_tup (a_cons (c_str (x := [119, 114, 111, 110, 103])) a_nil rfl)))
      ss_nil) ss_nil)
      (ss_cons (s_ret (e_tup (a_cons (c_str (x := [114, 101, 102, 117, 115, 101, 100])) (a_cons (e_sub C (e_lst false (a_cons (c_str (x := [115, 104, 97, 112, 101])) (a_cons (c_str (x := [107, 105, 110, 100])) (a_cons (c_str (x := [110, 117, 109, 98, 101, 114])) (a_cons (c_str (x := [112, 108, 97, 99, 101])) (a_cons (c_str (x := [112, 105, 108, 101])) (a_cons (c_str (x := [115, 108, 111, 116])) (a_cons (c_str (x := [116, 101, 120, 116])) a_nil rfl) rfl) rfl) rfl) rfl) rfl) rfl)) (b_index C (v 1) (a_cons c_bl a_nil rfl) rfl rfl rfl rfl rfl) (fun _ _ => rfl) (fun _ _ => rfl)) a_nil rfl) rfl)))
      ss_nil))))))
abbrev st__law_shape : Stmt := (top 31)
abbrev N__law_shape : List Str := ["_law_script", "_law_town", "_law_most", "_law_high", "_law_wide", "_law_marks", "_law_row", "_law_column", "_law_rows", "_law_columns", "_law_found", "_law_some", "_law_one"]
theorem sc__law_shape : FnScope N__law_shape ["_law_script", "_law_town", "_law_most"] (defScope st__law_shape) := ⟨rfl, rfl, rfl, by decide +kernel, rfl, by decide +kernel, by decide +kernel⟩
theorem p__law_shape (T : Fx G mg) (F : ∀ i, i ∈ IDS → ∃ (fd : FuncData) (ps : List Str), FnOk P w G.K mg base (L2.CX P w) k (G.fA i) fd ps (spF G (KF TB n) i) ∧ Binds G.K fd ps [] ∧ PySem.W.keepIn G.K (.ref (G.fA i)) = true)
    (a : Addr) (cdv : Value) (A : Around) (outer : List PySem.Env) (s : Shared) (H : Hp) (E : XK) (hr : Room (k + 1) (A.deeper (PyProof.Rows.envOfC "_law_shape" (defScope st__law_shape) s.heap.objs.size a cdv))) :
    PSs (cxOf (L2.CX P w) P w G.K mg base N__law_shape "_law_shape" (defScope st__law_shape) a cdv A outer s H E) (defBody st__law_shape) (tSs G (fun cls d _ H => E cls d H) (KF TB n) b__law_shape) := by
  have hrk : Room k (A.deeper (PyProof.Rows.envOfC "_law_shape" (defScope st__law_shape) s.heap.objs.size a cdv)) := hr.mono (Nat.le_succ k)
  have C : XC G (cxOf (L2.CX P w) P w G.K mg base N__law_shape "_law_shape" (defScope st__law_shape) a cdv A outer s H E) (fun cls d _ H => E cls d H) := xc_of hr sc__law_shape.nd
  exact (ss_cons (s_setN C.nd rfl (by first | exact Or.inl rfl | exact Or.inr rfl) (e_bin (o := .add) C c_int (e_call C ⟨F 9 (by decide)⟩ hrk rfl T.f__law_draw (a_cons (v 0) (a_cons (v 1) (a_cons (v 2) a_nil rfl) rfl) rfl) (by decide) rfl rfl)) rfl (by first | exact Or.inl rfl | exact Or.inr rfl))
      (ss_cons (s_setN C.nd rfl (by first | exact Or.inl rfl | exact Or.inr rfl) (e_bin (o := .add) C c_int (e_call C ⟨F 9 (by decide)⟩ hrk rfl T.f__law_draw (a_cons (v 0) (a_cons (v 1) (a_cons (v 2) a_nil rfl) rfl) rfl) (by decide) rfl rfl)) rfl (by first | exact Or.inl rfl | exact Or.inr rfl))
      (ss_cons (s_setN C.nd rfl (by first | exact Or.inl rfl | exact Or.inr rfl) (e_lst true (a_cons (e_tup (a_cons (e_call C ⟨F 9 (by decide)⟩ hrk rfl T.f__law_draw (a_cons (v 0) (a_cons (v 1) (a_cons (v 3) a_nil rfl) rfl) rfl) (by decide) rfl rfl) (a_cons (e_call C ⟨F 9 (by decide)⟩ hrk rfl T.f__law_draw (a_cons (v 0) (a_cons (v 1) (a_cons (v 4) a_nil rfl) rfl) rfl) (by decide) rfl rfl) a_nil rfl) rfl)) a_nil rfl)) rfl (by first | exact Or.inl rfl | exact Or.inr rfl))
      (ss_cons (s_for0 C own_of (i_rng1 rfl T.b_range (a_cons (v 3) a_nil rfl) rfl) (g_one C rfl (by first | exact Or.inl rfl | exact Or.inr rfl) (by first | exact Or.inl rfl | exact Or.inr rfl)) (ss_cons (s_for0 C own_of (i_rng1 rfl T.b_range (a_cons (v 4) a_nil rfl) rfl) (g_one C rfl (by first | exact Or.inl rfl | exact Or.inr rfl) (by first | exact Or.inl rfl | exact Or.inr rfl)) (ss_cons (s_if (t_cmp (o := .gt) C (e_call C ⟨F 9 (by decide)⟩ hrk rfl T.f__law_draw (a_cons (v 0) (a_cons (v 1) (a_cons c_int a_nil rfl) rfl) rfl) (by decide) rfl rfl) c_int (nomark _)) (ss_cons (s_expr (b_append C (v 5) (a_cons (e_tup (a_cons (v 6) (a_cons (v 7) a_nil rfl) rfl)) a_nil rfl) rfl rfl rfl rfl rfl) rfl)
      ss_nil) ss_nil)
      ss_nil) (fun _ => rfl))
      ss_nil) (fun _ => rfl))
      (ss_cons (s_setLcL (own := [("_law_row", 6), ("_law_column", 7)]) C rfl rfl (sw_true rfl rfl rfl (by decide +kernel)) ⟨(i_e C.K (v 5)), blk_ok rfl, by decide, fun sB1 HB1 CB1 clB1 fpB1 => (g_tup (C.blk sB1 HB1 _ _ fpB1) (gs_cons (C.blk sB1 HB1 _ _ fpB1) rfl (by first | exact Or.inl rfl | exact Or.inr rfl) (by first | exact Or.inl rfl | exact Or.inr rfl) (gs_cons (C.blk sB1 HB1 _ _ fpB1) rfl (by first | exact Or.inl rfl | exact Or.inr rfl) (by first | exact Or.inl rfl | exact Or.inr rfl) gs_nil rfl) rfl) rfl rfl), (fun sB1 HB1 CB1 clB1 fpB1 => pts0), fun sB1 HB1 CB1 clB1 fpB1 => (v 6), fun _ => rfl⟩)
      (ss_cons (s_setLcL (own := [("_law_row", 6), ("_law_column", 7)]) C rfl rfl (sw_true rfl rfl rfl (by decide +kernel)) ⟨(i_e C.K (v 5)), blk_ok rfl, by decide, fun sB1 HB1 CB1 clB1 fpB1 => (g_tup (C.blk sB1 HB1 _ _ fpB1) (gs_cons (C.blk sB1 HB1 _ _ fpB1) rfl (by first | exact Or.inl rfl | exact Or.inr rfl) (by first | exact Or.inl rfl | exact Or.inr rfl) (gs_cons (C.blk sB1 HB1 _ _ fpB1) rfl (by first | exact Or.inl rfl | exact Or.inr rfl) (by first | exact Or.inl rfl | exact Or.inr rfl) gs_nil rfl) rfl) rfl rfl), (fun sB1 HB1 CB1 clB1 fpB1 => pts0), fun sB1 HB1 CB1 clB1 fpB1 => (v 7), fun _ => rfl⟩)
      (ss_cons (s_setN C.nd rfl (by first | exact Or.inl rfl | exact Or.inr rfl) (e_lst true a_nil) rfl (by first | exact Or.inl rfl | exact Or.inr rfl))
      (ss_cons (s_for0 C own_of (i_rng2 rfl T.b_range (a_cons (e_bi (lb_min1 C.K C.calm C.hu) rfl T.b_min PyProof.Rows.boot_min (a_cons (v 8) a_nil rfl) (by decide) (by decide) rfl rfl) (a_cons (e_bin (o := .add) C (e_bi (lb_max1 C.K C.calm C.hu) rfl T.b_max PyProof.Rows.boot_max (a_cons (v 8) a_nil rfl) (by decide) (by decide) rfl rfl) c_int) a_nil rfl) rfl) rfl rfl) (g_one C rfl (by first | exact Or.inl rfl | exact Or.inr rfl) (by first | exact Or.inl rfl | exact Or.inr rfl)) (ss_cons (s_setLc (own := [("_law_column", 7)]) C rfl rfl (sw_true rfl rfl rfl (by decide +kernel)) ⟨(i_rng2 rfl T.b_range (a_cons (e_bi (lb_min1 C.K C.calm C.hu) rfl T.b_min PyProof.Rows.boot_min (a_cons (v 9) a_nil rfl) (by decide) (by decide) rfl rfl) (a_cons (e_bin (o := .add) C (e_bi (lb_max1 C.K C.calm C.hu) rfl T.b_max PyProof.Rows.boot_max (a_cons (v 9) a_nil rfl) (by decide) (by decide) rfl rfl) c_int) a_nil rfl) rfl) rfl rfl), blk_ok rfl, by decide, fun sB1 HB1 CB1 clB1 fpB1 => (g_one (C.blk sB1 HB1 _ _ fpB1) rfl (by first | exact Or.inl rfl | exact Or.inr rfl) (by first | exact Or.inl rfl | exact Or.inr rfl)), (fun sB1 HB1 CB1 clB1 fpB1 => pts0), fun sB1 HB1 CB1 clB1 fpB1 => (e_bin (o := .add) (C.blk sB1 HB1 _ _ fpB1) (c_str (x := [46])) (e_bin (o := .mul) (C.blk sB1 HB1 _ _ fpB1) (c_str (x := [35])) (e_biT (lb_int) rfl T.b_int PyProof.Rows.boot_int (a_cons (e_cmp (o := .inn) (C.blk sB1 HB1 _ _ fpB1) (e_tup (a_cons (v 6) (a_cons (v 7) a_nil rfl) rfl)) (v 5) rfl) a_nil rfl) (by decide) (by decide) rfl rfl))), fun _ => rfl⟩)
      (ss_cons (s_expr (b_append C (v 10) (a_cons (b_join C (c_str (x := [])) (a_cons (e_lc (own := [("_law_one", 12)]) C ⟨(i_e C.K (v 11)), blk_ok rfl, by decide, fun sB1 HB1 CB1 clB1 fpB1 => (g_one (C.blk sB1 HB1 _ _ fpB1) rfl (by first | exact Or.inl rfl | exact Or.inr rfl) (by first | exact Or.inl rfl | exact Or.inr rfl)), (fun sB1 HB1 CB1 clB1 fpB1 => pts0), fun sB1 HB1 CB1 clB1 fpB1 => (e_sub (C.blk sB1 HB1 _ _ fpB1) (v 12) c_neg (fun _ _ => rfl) (fun _ _ => rfl)), fun _ => rfl⟩) a_nil rfl) rfl rfl rfl rfl rfl) a_nil rfl) rfl rfl rfl rfl rfl) rfl)
      ss_nil)) (fun _ => rfl))
      (ss_cons (s_ret (e_biT (lb_tuple C.K) rfl T.b_tuple PyProof.Rows.boot_tuple (a_cons (v 10) a_nil rfl) (by decide) (by decide) rfl rfl))
      ss_nil)))))))))
abbrev st__law_cells : Stmt := (top 32)
abbrev N__law_cells : List Str := ["_law_shape_here", "_law_turn", "_law_some", "_law_row", "_law_column", "_law_k", "_law_low", "_law_left_side"]
theorem sc__law_cells : FnScope N__law_cells ["_law_shape_here", "_law_turn"] (defScope st__law_cells) := ⟨rfl, rfl, rfl, by decide +kernel, rfl, by decide +kernel, by decide +kernel⟩
theorem p__law_cells (T : Fx G mg) (F : ∀ i, i ∈ IDS → ∃ (fd : FuncData) (ps : List Str), FnOk P w G.K mg base (L2.CX P w) k (G.fA i) fd ps (spF G (KF TB n) i) ∧ Binds G.K fd ps [] ∧ PySem.W.keepIn G.K (.ref (G.fA i)) = true)
    (a : Addr) (cdv : Value) (A : Around) (outer : List PySem.Env) (s : Shared) (H : Hp) (E : XK) (hr : Room (k + 1) (A.deeper (PyProof.Rows.envOfC "_law_cells" (defScope st__law_cells) s.heap.objs.size a cdv))) :
    PSs (cxOf (L2.CX P w) P w G.K mg base N__law_cells "_law_cells" (defScope st__law_cells) a cdv A outer s H E) (defBody st__law_cells) (tSs G (fun cls d _ H => E cls d H) (KF TB n) b__law_cells) := by
  have C : XC G (cxOf (L2.CX P w) P w G.K mg base N__law_cells "_law_cells" (defScope st__law_cells) a cdv A outer s H E) (fun cls d _ H => E cls d H) := xc_of hr sc__law_cells.nd
  exact (ss_cons (s_setN C.nd rfl (by first | exact Or.inl rfl | exact Or.inr rfl) (e_lst false a_nil) rfl (by first | exact Or.inl rfl | exact Or.inr rfl))
      (ss_cons (s_for0 C own_of (i_rng1 rfl T.b_range (a_cons (e_bi (lb_len C.K) rfl T.b_len PySem.boot_len (a_cons (v 0) a_nil rfl) (by decide) (by decide) rfl rfl) a_nil rfl) rfl) (g_one C rfl (by first | exact Or.inl rfl | exact Or.inr rfl) (by first | exact Or.inl rfl | exact Or.inr rfl)) (ss_cons (s_setN C.nd rfl (by first | exact Or.inl rfl | exact Or.inr rfl) (e_bin (o := .add) C (v 2) (e_lc (own := [("_law_column", 4)]) C ⟨(i_rng1 rfl T.b_range (a_cons (e_bi (lb_len C.K) rfl T.b_len PySem.boot_len (a_cons (e_sub C (v 0) c_int (fun _ _ => rfl) (fun _ _ => rfl)) a_nil rfl) (by decide) (by decide) rfl rfl) a_nil rfl) rfl), blk_ok rfl, by decide, fun sB1 HB1 CB1 clB1 fpB1 => (g_one (C.blk sB1 HB1 _ _ fpB1) rfl (by first | exact Or.inl rfl | exact Or.inr rfl) (by first | exact Or.inl rfl | exact Or.inr rfl)), (fun sB1 HB1 CB1 clB1 fpB1 => pts1 (t_cmp (o := .eq) (C.blk sB1 HB1 _ _ fpB1) (e_sub (C.blk sB1 HB1 _ _ fpB1) (e_sub (C.blk sB1 HB1 _ _ fpB1) (v 0) (v 3) (fun _ _ => rfl) (fun _ _ => rfl)) (v 4) (fun _ _ => rfl) (fun _ _ => rfl)) (c_str (x := [35])) (nomark _))), fun sB1 HB1 CB1 clB1 fpB1 => (e_tup (a_cons (v 3) (a_cons (v 4) a_nil rfl) rfl)), fun _ => rfl⟩)) rfl (by first | exact Or.inl rfl | exact Or.inr rfl))
      ss_nil) (fun _ => rfl))
      (ss_cons (s_for0 C own_of (i_rng1 rfl T.b_range (a_cons (e_bin (o := .mod) C (v 1) c_int) a_nil rfl) rfl) (g_one C rfl (by first | exact Or.inl rfl | exact Or.inr rfl) (by first | exact Or.inl rfl | exact Or.inr rfl)) (ss_cons (s_setLc (own := [("_law_row", 3), ("_law_column", 4)]) C rfl rfl (sw_true rfl rfl rfl (by decide +kernel)) ⟨(i_e C.K (v 2)), blk_ok rfl, by decide, fun sB1 HB1 CB1 clB1 fpB1 => (g_tup (C.blk sB1 HB1 _ _ fpB1) (gs_cons (C.blk sB1 HB1 _ _ fpB1) rfl (by first | exact Or.inl rfl | exact Or.inr rfl) (by first | exact Or.inl rfl | exact Or.inr rfl) (gs_cons (C.blk sB1 HB1 _ _ fpB1) rfl (by first | exact Or.inl rfl | exact Or.inr rfl) (by first | exact Or.inl rfl | exact Or.inr rfl) gs_nil rfl) rfl) rfl rfl), (fun sB1 HB1 CB1 clB1 fpB1 => pts0), fun sB1 HB1 CB1 clB1 fpB1 => (e_tup (a_cons (v 4) (a_cons (e_bin (o := .sub) (C.blk sB1 HB1 _ _ fpB1) c_int (v 3)) a_nil rfl) rfl)), fun _ => rfl⟩)
      ss_nil) (fun _ => rfl))
      (ss_cons (s_setN C.nd rfl (by first | exact Or.inl rfl | exact Or.inr rfl) (e_bi (lb_min1 C.K C.calm C.hu) rfl T.b_min PyProof.Rows.boot_min (a_cons (e_lc (own := [("_law_row", 3), ("_law_column", 4)]) C ⟨(i_e C.K (v 2)), blk_ok rfl, by decide, fun sB1 HB1 CB1 clB1 fpB1 => (g_tup (C.blk sB1 HB1 _ _ fpB1) (gs_cons (C.blk sB1 HB1 _ _ fpB1) rfl (by first | exact Or.inl rfl | exact Or.inr rfl) (by first | exact Or.inl rfl | exact Or.inr rfl) (gs_cons (C.blk sB1 HB1 _ _ fpB1) rfl (by first | exact Or.inl rfl | exact Or.inr rfl) (by first | exact Or.inl rfl | exact Or.inr rfl) gs_nil rfl) rfl) rfl rfl), (fun sB1 HB1 CB1 clB1 fpB1 => pts0), fun sB1 HB1 CB1 clB1 fpB1 => (v 3), fun _ => rfl⟩) a_nil rfl) (by decide) (by decide) rfl rfl) rfl (by first | exact Or.inl rfl | exact Or.inr rfl))
      (ss_cons (s_setN C.nd rfl (by first | exact Or.inl rfl | exact Or.inr rfl) (e_bi (lb_min1 C.K C.calm C.hu) rfl T.b_min PyProof.Rows.boot_min (a_cons (e_lc (own := [("_law_row", 3), ("_law_column", 4)]) C ⟨(i_e C.K (v 2)), blk_ok rfl, by decide, fun sB1 HB1 CB1 clB1 fpB1 => (g_tup (C.blk sB1 HB1 _ _ fpB1) (gs_cons (C.blk sB1 HB1 _ _ fpB1) rfl (by first | exact Or.inl rfl | exact Or.inr rfl) (by first | exact Or.inl rfl | exact Or.inr rfl) (gs_cons (C.blk sB1 HB1 _ _ fpB1) rfl (by first | exact Or.inl rfl | exact Or.inr rfl) (by first | exact Or.inl rfl | exact Or.inr rfl) gs_nil rfl) rfl) rfl rfl), (fun sB1 HB1 CB1 clB1 fpB1 => pts0), fun sB1 HB1 CB1 clB1 fpB1 => (v 4), fun _ => rfl⟩) a_nil rfl) (by decide) (by decide) rfl rfl) rfl (by first | exact Or.inl rfl | exact Or.inr rfl))
      (ss_cons (s_ret (e_bi (lb_sorted C.K C.hu) rfl T.b_sorted PyProof.Rows.boot_sorted (a_cons (e_lc (own := [("_law_row", 3), ("_law_column", 4)]) C ⟨(i_e C.K (v 2)), blk_ok rfl, by decide, fun sB1 HB1 CB1 clB1 fpB1 => (g_tup (C.blk sB1 HB1 _ _ fpB1) (gs_cons (C.blk sB1 HB1 _ _ fpB1) rfl (by first | exact Or.inl rfl | exact Or.inr rfl) (by first | exact Or.inl rfl | exact Or.inr rfl) (gs_cons (C.blk sB1 HB1 _ _ fpB1) rfl (by first | exact Or.inl rfl | exact Or.inr rfl) (by first | exact Or.inl rfl | exact Or.inr rfl) gs_nil rfl) rfl) rfl rfl), (fun sB1 HB1 CB1 clB1 fpB1 => pts0), fun sB1 HB1 CB1 clB1 fpB1 => (e_tup (a_cons (e_bin (o := .sub) (C.blk sB1 HB1 _ _ fpB1) (v 3) (v 6)) (a_cons (e_bin (o := .sub) (C.blk sB1 HB1 _ _ fpB1) (v 4) (v 7)) a_nil rfl) rfl)), fun _ => rfl⟩) a_nil rfl) (by decide) (by decide) rfl rfl))
      ss_nil))))))
abbrev st__law_turns : Stmt := (top 33)
abbrev N__law_turns : List Str := ["_law_shape_here", "_law_looks", "_law_found", "_law_turn", "_law_some"]
theorem sc__law_turns : FnScope N__law_turns ["_law_shape_here"] (defScope st__law_turns) := ⟨rfl, rfl, rfl, by decide +kernel, rfl, by decide +kernel, by decide +kernel⟩
theorem p__law_turns (T : Fx G mg) (F : ∀ i, i ∈ IDS → ∃ (fd : FuncData) (ps : List Str), FnOk P w G.K mg base (L2.CX P w) k (G.fA i) fd ps (spF G (KF TB n) i) ∧ Binds G.K fd ps [] ∧ PySem.W.keepIn G.K (.ref (G.fA i)) = true)
    (a : Addr) (cdv : Value) (A : Around) (outer : List PySem.Env) (s : Shared) (H : Hp) (E : XK) (hr : Room (k + 1) (A.deeper (PyProof.Rows.envOfC "_law_turns" (defScope st__law_turns) s.heap.objs.size a cdv))) :
    PSs (cxOf (L2.CX P w) P w G.K mg base N__law_turns "_law_turns" (defScope st__law_turns) a cdv A outer s H E) (defBody st__law_turns) (tSs G (fun cls d _ H => E cls d H) (KF TB n) b__law_turns) := by
  have hrk : Room k (A.deeper (PyProof.Rows.envOfC "_law_turns" (defScope st__law_turns) s.heap.objs.size a cdv)) := hr.mono (Nat.le_succ k)
  have C : XC G (cxOf (L2.CX P w) P w G.K mg base N__law_turns "_law_turns" (defScope st__law_turns) a cdv A outer s H E) (fun cls d _ H => E cls d H) := xc_of hr sc__law_turns.nd
  exact (ss_cons (s_setN C.nd rfl (by first | exact Or.inl rfl | exact Or.inr rfl) (e_lst true a_nil) rfl (by first | exact Or.inl rfl | exact Or.inr rfl))
      (ss_cons (s_setN C.nd rfl (by first | exact Or.inl rfl | exact Or.inr rfl) (e_lst true a_nil) rfl (by first | exact Or.inl rfl | exact Or.inr rfl))
      (ss_cons (s_for0 C own_of (i_rng1 rfl T.b_range (a_cons c_int a_nil rfl) rfl) (g_one C rfl (by first | exact Or.inl rfl | exact Or.inr rfl) (by first | exact Or.inl rfl | exact Or.inr rfl)) (ss_cons (s_setN C.nd rfl (by first | exact Or.inl rfl | exact Or.inr rfl) (e_call C ⟨F 13 (by decide)⟩ hrk rfl T.f__law_cells (a_cons (v 0) (a_cons (v 3) a_nil rfl) rfl) (by decide) rfl rfl) rfl (by first | exact Or.inl rfl | exact Or.inr rfl))
      (ss_cons (s_if (t_cmp (o := .nin) C (v 4) (v 1) rfl) (ss_cons (s_expr (b_append C (v 1) (a_cons (v 4) a_nil rfl) rfl rfl rfl rfl rfl) rfl)
      (ss_cons (s_expr (b_append C (v 2) (a_cons (v 3) a_nil rfl) rfl rfl rfl rfl rfl) rfl)
      ss_nil)) ss_nil)
      ss_nil)) (fun _ => rfl))
      (ss_cons (s_ret (v 2))
      ss_nil))))
abbrev st__law_told : Stmt := (top 34)
abbrev N__law_told : List Str := ["_law_book", "_law_some", "_law_held", "_law_found", "e"]
theorem sc__law_told : FnScope N__law_told ["_law_book", "_law_some"] (defScope st__law_told) := ⟨rfl, rfl, rfl, by decide +kernel, rfl, by decide +kernel, by decide +kernel⟩
theorem p__law_told (T : Fx G mg) (F : ∀ i, i ∈ IDS → ∃ (fd : FuncData) (ps : List Str), FnOk P w G.K mg base (L2.CX P w) k (G.fA i) fd ps (spF G (KF TB n) i) ∧ Binds G.K fd ps [] ∧ PySem.W.keepIn G.K (.ref (G.fA i)) = true)
    (a : Addr) (cdv : Value) (A : Around) (outer : List PySem.Env) (s : Shared) (H : Hp) (E : XK) (hr : Room (k + 1) (A.deeper (PyProof.Rows.envOfC "_law_told" (defScope st__law_told) s.heap.objs.size a cdv))) :
    PSs (cxOf (L2.CX P w) P w G.K mg base N__law_told "_law_told" (defScope st__law_told) a cdv A outer s H E) (defBody st__law_told) (tSs G (fun cls d _ H => E cls d H) (KF TB n) b__law_told_2) := by
  have hrk : Room k (A.deeper (PyProof.Rows.envOfC "_law_told" (defScope st__law_told) s.heap.objs.size a cdv)) := hr.mono (Nat.le_succ k)
  have C : XC G (cxOf (L2.CX P w) P w G.K mg base N__law_told "_law_told" (defScope st__law_told) a cdv A outer s H E) (fun cls d _ H => E cls d H) := xc_of hr sc__law_told.nd
  exact (ss_cons (s_setN C.nd rfl (by first | exact Or.inl rfl | exact Or.inr rfl) c_non rfl (by first | exact Or.inl rfl | exact Or.inr rfl))
      (ss_cons (s_setN C.nd rfl (by first | exact Or.inl rfl | exact Or.inr rfl) c_non rfl (by first | exact Or.inl rfl | exact Or.inr rfl))
      (ss_cons (s_tryAs (i := 4) C rfl rfl rfl rfl rfl ⟨rfl, by decide, Or.inl T.c_BagError⟩ T.exm (fun WB pnB xeB tkB poB => (ss_cons (s_setN (C.tr tkB).nd rfl (by first | exact Or.inl rfl | exact Or.inr rfl) (e_meth (C.tr tkB) ⟨F 20 (by decide)⟩ hrk (v 0) T.k_Book T.h_Book_add (a_cons (e_sub (C.tr tkB) (v 1) c_int (fun _ _ => rfl) (fun _ _ => rfl)) (a_cons (e_sub (C.tr tkB) (v 1) c_int (fun _ _ => rfl) (fun _ _ => rfl)) (a_cons (e_sub (C.tr tkB) (v 1) c_int (fun _ _ => rfl) (fun _ _ => rfl)) (a_cons (e_sub (C.tr tkB) (v 1) c_int (fun _ _ => rfl) (fun _ _ => rfl)) (a_cons (e_sub (C.tr tkB) (v 1) c_int (fun _ _ => rfl) (fun _ _ => rfl)) (a_cons (e_sub (C.tr tkB) (v 1) c_int (fun _ _ => rfl) (fun _ _ => rfl)) a_nil rfl) rfl) rfl) rfl) rfl) rfl) rfl rfl rfl) rfl (by first | exact Or.inl rfl | exact Or.inr rfl))
      ss_nil)) (fun aB pnB => (ss_cons (s_setN C.nd rfl (by first | exact Or.inl rfl | exact Or.inr rfl) (v 4) rfl (by first | exact Or.inl rfl | exact Or.inr rfl))
      ss_nil)))
      (ss_cons (s_ret (e_ifx (t_cmp (o := .isN) C (v 2) c_non (nomark _)) (v 3) (e_call C ⟨F 11 (by decide)⟩ hrk rfl T.f__law_refusal (a_cons (v 2) a_nil rfl) (by decide) rfl rfl)))
      ss_nil))))
abbrev st__law_asked : Stmt := (top 35)
abbrev N__law_asked : List Str := ["_law_book", "_law_way", "_law_name", "_law_held", "_law_found", "e"]
theorem sc__law_asked : FnScope N__law_asked ["_law_book", "_law_way", "_law_name"] (defScope st__law_asked) := ⟨rfl, rfl, rfl, by decide +kernel, rfl, by decide +kernel, by decide +kernel⟩
theorem p__law_asked (T : Fx G mg) (F : ∀ i, i ∈ IDS → ∃ (fd : FuncData) (ps : List Str), FnOk P w G.K mg base (L2.CX P w) k (G.fA i) fd ps (spF G (KF TB n) i) ∧ Binds G.K fd ps [] ∧ PySem.W.keepIn G.K (.ref (G.fA i)) = true)
    (a : Addr) (cdv : Value) (A : Around) (outer : List PySem.Env) (s : Shared) (H : Hp) (E : XK) (hr : Room (k + 1) (A.deeper (PyProof.Rows.envOfC "_law_asked" (defScope st__law_asked) s.heap.objs.size a cdv))) :
    PSs (cxOf (L2.CX P w) P w G.K mg base N__law_asked "_law_asked" (defScope st__law_asked) a cdv A outer s H E) (defBody st__law_asked) (tSs G (fun cls d _ H => E cls d H) (KF TB n) b__law_asked) := by
  have hrk : Room k (A.deeper (PyProof.Rows.envOfC "_law_asked" (defScope st__law_asked) s.heap.objs.size a cdv)) := hr.mono (Nat.le_succ k)
  have C : XC G (cxOf (L2.CX P w) P w G.K mg base N__law_asked "_law_asked" (defScope st__law_asked) a cdv A outer s H E) (fun cls d _ H => E cls d H) := xc_of hr sc__law_asked.nd
  exact (ss_cons (s_setN C.nd rfl (by first | exact Or.inl rfl | exact Or.inr rfl) c_non rfl (by first | exact Or.inl rfl | exact Or.inr rfl))
      (ss_cons (s_setN C.nd rfl (by first | exact Or.inl rfl | exact Or.inr rfl) c_non rfl (by first | exact Or.inl rfl | exact Or.inr rfl))
      (ss_cons (s_tryAs (i := 5) C rfl rfl rfl rfl rfl ⟨rfl, by decide, Or.inl T.c_BagError⟩ T.exm (fun WB pnB xeB tkB poB => (ss_cons (s_if (t_cmp (o := .eq) (C.tr tkB) (v 1) c_int (nomark _)) (ss_cons (s_setN (C.tr tkB).nd rfl (by first | exact Or.inl rfl | exact Or.inr rfl) (e_meth (C.tr tkB) ⟨F 23 (by decide)⟩ hrk (v 0) T.k_Book T.h_Book_shape (a_cons (v 2) a_nil rfl) rfl rfl rfl) rfl (by first | exact Or.inl rfl | exact Or.inr rfl))
      ss_nil) (ss_cons (s_if (t_cmp (o := .eq) (C.tr tkB) (v 1) c_int (nomark _)) (ss_cons (s_setN (C.tr tkB).nd rfl (by first | exact Or.inl rfl | exact Or.inr rfl) (e_meth (C.tr tkB) ⟨F 24 (by decide)⟩ hrk (v 0) T.k_Book T.h_Book_most (a_cons (v 2) a_nil rfl) rfl rfl rfl) rfl (by first | exact Or.inl rfl | exact Or.inr rfl))
      ss_nil) (ss_cons (s_if (t_cmp (o := .eq) (C.tr tkB) (v 1) c_int (nomark _)) (ss_cons (s_setN (C.tr tkB).nd rfl (by first | exact Or.inl rfl | exact Or.inr rfl) (e_meth (C.tr tkB) ⟨F 25 (by decide)⟩ hrk (v 0) T.k_Book T.h_Book_turns (a_cons (v 2) a_nil rfl) rfl rfl rfl) rfl (by first | exact Or.inl rfl | exact Or.inr rfl))
      ss_nil) (ss_cons (s_setN (C.tr tkB).nd rfl (by first | exact Or.inl rfl | exact Or.inr rfl) (e_ifx (t_cmp (o := .eq) (C.tr tkB) (v 1) c_int (nomark _)) (e_meth (C.tr tkB) ⟨F 26 (by decide)⟩ hrk (v 0) T.k_Book T.h_Book_weight (a_cons (v 2) a_nil rfl) rfl rfl rfl) (e_meth (C.tr tkB) ⟨F 27 (by decide)⟩ hrk (v 0) T.k_Book T.h_Book_has_tag (a_cons (v 2) (a_cons (c_str (x := [104, 97, 110, 100])) a_nil rfl) rfl) rfl rfl rfl)) rfl (by first | exact Or.inl rfl | exact Or.inr rfl))
      ss_nil))
      ss_nil))
      ss_nil))
      ss_nil)) (fun aB pnB => (ss_cons (s_setN C.nd rfl (by first | exact Or.inl rfl | exact Or.inr rfl) (v 5) rfl (by first | exact Or.inl rfl | exact Or.inr rfl))
      ss_nil)))
      (ss_cons (s_ret (e_ifx (t_cmp (o := .isN) C (v 3) c_non (nomark _)) (v 4) (e_call C ⟨F 11 (by decide)⟩ hrk rfl T.f__law_refusal (a_cons (v 3) a_nil rfl) (by decide) rfl rfl)))
      ss_nil))))
abbrev st__law_due : Stmt := (top 36)
abbrev N__law_due : List Str := ["_law_rows", "_law_some", "_law_name", "_law_shape_here", "_law_most", "_law_may_turn", "_law_heavy", "_law_tags"]
theorem sc__law_due : FnScope N__law_due ["_law_rows", "_law_some"] (defScope st__law_due) := ⟨rfl, rfl, rfl, by decide +kernel, rfl, by decide +kernel, by decide +kernel⟩
theorem p__law_due (T : Fx G mg) (F : ∀ i, i ∈ IDS → ∃ (fd : FuncData) (ps : List Str), FnOk P w G.K mg base (L2.CX P w) k (G.fA i) fd ps (spF G (KF TB n) i) ∧ Binds G.K fd ps [] ∧ PySem.W.keepIn G.K (.ref (G.fA i)) = true)
    (a : Addr) (cdv : Value) (A : Around) (outer : List PySem.Env) (s : Shared) (H : Hp) (E : XK) (hr : Room (k + 1) (A.deeper (PyProof.Rows.envOfC "_law_due" (defScope st__law_due) s.heap.objs.size a cdv))) :
    PSs (cxOf (L2.CX P w) P w G.K mg base N__law_due "_law_due" (defScope st__law_due) a cdv A outer s H E) (defBody st__law_due) (tSs G (fun cls d _ H => E cls d H) (KF TB n) b__law_due) := by
  have C : XC G (cxOf (L2.CX P w) P w G.K mg base N__law_due "_law_due" (defScope st__law_due) a cdv A outer s H E) (fun cls d _ H => E cls d H) := xc_of hr sc__law_due.nd
  exact (ss_cons (s_setT (v 1) (g_tup C (gs_cons C rfl (by first | exact Or.inl rfl | exact Or.inr rfl) (by first | exact Or.inl rfl | exact Or.inr rfl) (gs_cons C rfl (by first | exact Or.inl rfl | exact Or.inr rfl) (by first | exact Or.inl rfl | exact Or.inr rfl) (gs_cons C rfl (by first | exact Or.inl rfl | exact Or.inr rfl) (by first | exact Or.inl rfl | exact Or.inr rfl) (gs_cons C rfl (by first | exact Or.inl rfl | exact Or.inr rfl) (by first | exact Or.inl rfl | exact Or.inr rfl) (gs_cons C rfl (by first | exact Or.inl rfl | exact Or.inr rfl) (by first | exact Or.inl rfl | exact Or.inr rfl) (gs_cons C rfl (by first | exact Or.inl rfl | exact Or.inr rfl) (by first | exact Or.inl rfl | exact Or.inr rfl) gs_nil rfl) rfl) rfl) rfl) rfl) rfl) rfl rfl) rfl rfl rfl)
      (ss_cons (s_if (PW.pt (t_or (t_cmp (o := .inn) C (v 2) (e_tup (a_cons (c_str (x := [])) (a_cons (c_str (x := [65, 120])) (a_cons (c_str (x := [110, 105, 110, 101, 115, 105, 103, 110, 115])) a_nil rfl) rfl) rfl)) rfl) (pw_or1 (t_cmp (o := .inn) C (v 2) (v 0) rfl)))) (ss_cons (s_ret (e_tup (a_cons (c_str (x := [114, 101, 102, 117, 115, 101, 100])) (a_cons (c_str (x := [107, 105, 110, 100])) a_nil rfl) rfl)))
      ss_nil) ss_nil)
      (ss_cons (s_if (t_cmp (o := .inn) C (v 3) (e_tup (a_cons (e_tup a_nil) (a_cons (e_tup (a_cons (c_str (x := [46, 46])) a_nil rfl)) a_nil rfl) rfl)) rfl) (ss_cons (s_ret (e_tup (a_cons (c_str (x := [114, 101, 102, 117, 115, 101, 100])) (a_cons (c_str (x := [115, 104, 97, 112, 101])) a_nil rfl) rfl)))
      ss_nil) ss_nil)
      (ss_cons (s_if (PW.pt (t_or (t_cmp (o := .inn) C (v 4) (e_tup (a_cons c_int (a_cons c_int a_nil rfl) rfl)) rfl) (pw_or1 (t_cmp (o := .inn) C (v 6) (e_tup (a_cons c_neg (a_cons c_int a_nil rfl) rfl)) rfl)))) (ss_cons (s_ret (e_tup (a_cons (c_str (x := [114, 101, 102, 117, 115, 101, 100])) (a_cons (c_str (x := [110, 117, 109, 98, 101, 114])) a_nil rfl) rfl)))
      ss_nil) ss_nil)
      (ss_cons (s_ret (e_ifx (t_cmp (o := .inn) C (c_str (x := [65])) (v 7) rfl) (e_tup (a_cons (c_str (x := [114, 101, 102, 117, 115, 101, 100])) (a_cons (c_str (x := [107, 105, 110, 100])) a_nil rfl) rfl)) c_non))
      ss_nil)))))
abbrev st_law : Stmt := (top 37)
abbrev N_law : List Str := ["_law_script", "_law_town", "_law_book", "_law_rows", "_law_k", "_law_name", "_law_shape_here", "_law_most", "_law_heavy", "_law_tags", "_law_some", "_law_due_here", "_law_may_turn", "_law_turns_here", "_law_way", "_law_full"]
theorem sc_law : FnScope N_law ["_law_script"] (defScope st_law) := ⟨rfl, rfl, rfl, by decide +kernel, rfl, by decide +kernel, by decide +kernel⟩
theorem p_law (T : Fx G mg) (F : ∀ i, i ∈ IDS → ∃ (fd : FuncData) (ps : List Str), FnOk P w G.K mg base (L2.CX P w) k (G.fA i) fd ps (spF G (KF TB n) i) ∧ Binds G.K fd ps [] ∧ PySem.W.keepIn G.K (.ref (G.fA i)) = true)
    (a : Addr) (cdv : Value) (A : Around) (outer : List PySem.Env) (s : Shared) (H : Hp) (E : XK) (hr : Room (k + 1) (A.deeper (PyProof.Rows.envOfC "law" (defScope st_law) s.heap.objs.size a cdv))) :
    PSs (cxOf (L2.CX P w) P w G.K mg base N_law "law" (defScope st_law) a cdv A outer s H E) (defBody st_law) (tSs G (fun cls d _ H => E cls d H) (KF TB n) b_law_2) := by
  have hrk1 : Room (k + 1) (A.deeper (PyProof.Rows.envOfC "law" (defScope st_law) s.heap.objs.size a cdv)) := hr
  have hrk : Room k (A.deeper (PyProof.Rows.envOfC "law" (defScope st_law) s.heap.objs.size a cdv)) := hr.mono (Nat.le_succ k)
  have C : XC G (cxOf (L2.CX P w) P w G.K mg base N_law "law" (defScope st_law) a cdv A outer s H E) (fun cls d _ H => E cls d H) := xc_of hr sc_law.nd
  exact (ss_cons (s_setN C.nd rfl (by first | exact Or.inl rfl | exact Or.inr rfl) (e_lst true a_nil) rfl (by first | exact Or.inl rfl | exact Or.inr rfl))
      (ss_cons (s_setN C.nd rfl (by first | exact Or.inl rfl | exact Or.inr rfl) (e_make0 C ⟨F 19 (by decide)⟩ hrk1 T.m_Book rfl T.c_Book (by decide)) rfl (by first | exact Or.inl rfl | exact Or.inr rfl))
      (ss_cons (s_setN C.nd rfl (by first | exact Or.inl rfl | exact Or.inr rfl) (e_dct0 false) rfl (by first | exact Or.inl rfl | exact Or.inr rfl))
      (ss_cons (s_for0 C own_of (i_rng1 rfl T.b_range (a_cons (e_call C ⟨F 9 (by decide)⟩ hrk rfl T.f__law_draw (a_cons (v 0) (a_cons (v 1) (a_cons c_int a_nil rfl) rfl) rfl) (by decide) rfl rfl) a_nil rfl) rfl) (g_one C rfl (by first | exact Or.inl rfl | exact Or.inr rfl) (by first | exact Or.inl rfl | exact Or.inr rfl)) (ss_cons (s_setN C.nd rfl (by first | exact Or.inl rfl | exact Or.inr rfl) (e_call C ⟨F 10 (by decide)⟩ hrk rfl T.f__law_pick (a_cons (v 0) (a_cons (v 1) (a_cons (e_lst false (a_cons (c_str (x := [97, 120])) (a_cons (c_str (x := [98, 111, 119])) (a_cons (c_str (x := [99, 111, 105, 110])) (a_cons (c_str (x := [103, 101, 109])) (a_cons (c_str (x := [97])) (a_cons (c_str (x := [101, 105, 103, 104, 116, 97, 98, 99])) (a_cons (c_str (x := [])) (a_cons (c_str (x := [65, 120])) (a_cons (c_str (x := [110, 105, 110, 101, 115, 105, 103, 110, 115])) a_nil rfl) rfl) rfl) rfl) rfl) rfl) rfl) rfl) rfl)) a_nil rfl) rfl) rfl) (by decide) rfl rfl) rfl (by first | exact Or.inl rfl | exact Or.inr rfl))
      (ss_cons (s_setN C.nd rfl (by first | exact Or.inl rfl | exact Or.inr rfl) (e_call C ⟨F 10 (by decide)⟩ hrk rfl T.f__law_pick (a_cons (v 0) (a_cons (v 1) (a_cons (e_lst false (a_cons (e_call C ⟨F 12 (by decide)⟩ hrk rfl T.f__law_shape (a_cons (v 0) (a_cons (v 1) (a_cons c_int a_nil rfl) rfl) rfl) (by decide) rfl rfl) (a_cons (e_call C ⟨F 12 (by decide)⟩ hrk rfl T.f__law_shape (a_cons (v 0) (a_cons (v 1) (a_cons c_int a_nil rfl) rfl) rfl) (by decide) rfl rfl) (a_cons (e_tup a_nil) (a_cons (e_tup (a_cons (c_str (x := [46, 46])) a_nil rfl)) a_nil rfl) rfl) rfl) rfl)) a_nil rfl) rfl) rfl) (by decide) rfl rfl) rfl (by first | exact Or.inl rfl | exact Or.inr rfl))
      (ss_cons (s_setN C.nd rfl (by first | exact Or.inl rfl | exact Or.inr rfl) (e_call C ⟨F 10 (by decide)⟩ hrk rfl T.f__law_pick (a_cons (v 0) (a_cons (v 1) (a_cons (e_lst false (a_cons c_int (a_cons c_int (a_cons c_int (a_cons c_int (a_cons c_int a_nil rfl) rfl) rfl) rfl) rfl)) a_nil rfl) rfl) rfl) (by decide) rfl rfl) rfl (by first | exact Or.inl rfl | exact Or.inr rfl))
      (ss_cons (s_setN C.nd rfl (by first | exact Or.inl rfl | exact Or.inr rfl) (e_call C ⟨F 10 (by decide)⟩ hrk rfl T.f__law_pick (a_cons (v 0) (a_cons (v 1) (a_cons (e_lst false (a_cons c_int (a_cons c_int (a_cons c_int (a_cons c_int (a_cons c_neg (a_cons c_int a_nil rfl) rfl) rfl) rfl) rfl) rfl)) a_nil rfl) rfl) rfl) (by decide) rfl rfl) rfl (by first | exact Or.inl rfl | exact Or.inr rfl))
      (ss_cons (s_setN C.nd rfl (by first | exact Or.inl rfl | exact Or.inr rfl) (e_call C ⟨F 10 (by decide)⟩ hrk rfl T.f__law_pick (a_cons (v 0) (a_cons (v 1) (a_cons (e_lst false (a_cons (e_lst false a_nil) (a_cons (e_lst false (a_cons (c_str (x := [104, 97, 110, 100])) a_nil rfl)) (a_cons (e_lst false (a_cons (c_str (x := [104, 101, 97, 100])) (a_cons (c_str (x := [104, 97, 110, 100])) (a_cons (c_str (x := [104, 97, 110, 100])) a_nil rfl) rfl) rfl)) (a_cons (e_lst false (a_cons (c_str (x := [65])) a_nil rfl)) a_nil rfl) rfl) rfl) rfl)) a_nil rfl) rfl) rfl) (by decide) rfl rfl) rfl (by first | exact Or.inl rfl | exact Or.inr rfl))
      (ss_cons (s_setN C.nd rfl (by first | exact Or.inl rfl | exact Or.inr rfl) (e_tup (a_cons (v 5) (a_cons (v 6) (a_cons (v 7) (a_cons (e_cmp (o := .eq) C (e_call C ⟨F 9 (by decide)⟩ hrk rfl T.f__law_draw (a_cons (v 0) (a_cons (v 1) (a_cons c_int a_nil rfl) rfl) rfl) (by decide) rfl rfl) c_int (nomark _)) (a_cons (v 8) (a_cons (v 9) a_nil rfl) rfl) rfl) rfl) rfl) rfl)) rfl (by first | exact Or.inl rfl | exact Or.inr rfl))
      (ss_cons (s_setN C.nd rfl (by first | exact Or.inl rfl | exact Or.inr rfl) (e_call C ⟨F 30 (by decide)⟩ hrk rfl T.f__law_due (a_cons (v 3) (a_cons (v 10) a_nil rfl) rfl) (by decide) rfl rfl) rfl (by first | exact Or.inl rfl | exact Or.inr rfl))
      (ss_cons (s_if (t_cmp (o := .ne) C (e_call C ⟨F 28 (by decide)⟩ hrk rfl T.f__law_told (a_cons (v 2) (a_cons (v 10) a_nil rfl) rfl) (by decide) rfl rfl) (v 11) (nomark _)) (ss_cons (s_ret c_bl)
      ss_nil) ss_nil)
      (ss_cons (s_if (t_cmp (o := .isN) C (v 11) c_non (nomark _)) (ss_cons (s_setI C (v 3) (v 5) (v 10) rfl rfl rfl (fun _ => rfl))
      ss_nil) ss_nil)
      (ss_cons (s_if (t_cmp (o := .ne) C (e_meth0 C ⟨F 22 (by decide)⟩ hrk (v 2) T.k_Book T.h_Book_names rfl) (e_keysL_sorted C T.b_sorted (v 3)) (nomark _)) (ss_cons (s_ret c_bl)
      ss_nil) ss_nil)
      ss_nil)))))))))) (fun _ => rfl))
      (ss_cons (s_forL C own_of (i_keys (v 3) rfl rfl) (g_one C rfl (by first | exact Or.inl rfl | exact Or.inr rfl) (by first | exact Or.inl rfl | exact Or.inr rfl)) (ss_cons (s_setT (e_slc C (e_sub C (v 3) (v 5) (fun _ _ => rfl) (fun _ _ => rfl)) (o_some c_int) o_none) (g_tup C (gs_cons C rfl (by first | exact Or.inl rfl | exact Or.inr rfl) (by first | exact Or.inl rfl | exact Or.inr rfl) (gs_cons C rfl (by first | exact Or.inl rfl | exact Or.inr rfl) (by first | exact Or.inl rfl | exact Or.inr rfl) (gs_cons C rfl (by first | exact Or.inl rfl | exact Or.inr rfl) (by first | exact Or.inl rfl | exact Or.inr rfl) (gs_cons C rfl (by first | exact Or.inl rfl | exact Or.inr rfl) (by first | exact Or.inl rfl | exact Or.inr rfl) (gs_cons C rfl (by first | exact Or.inl rfl | exact Or.inr rfl) (by first | exact Or.inl rfl | exact Or.inr rfl) gs_nil rfl) rfl) rfl) rfl) rfl) rfl rfl) rfl rfl rfl)
      (ss_cons (s_setN C.nd rfl (by first | exact Or.inl rfl | exact Or.inr rfl) (e_ifx (t_truth C.K (v 12) (fun _ => rfl)) (e_call C ⟨F 15 (by decide)⟩ hrk rfl T.f__law_turns (a_cons (v 6) a_nil rfl) (by decide) rfl rfl) (e_lst false (a_cons c_int a_nil rfl))) rfl (by first | exact Or.inl rfl | exact Or.inr rfl))
      (ss_cons (s_if (t_cmp (o := .ne) C (e_lc (own := [("_law_way", 14)]) C ⟨(i_rng1 rfl T.b_range (a_cons c_int a_nil rfl) rfl), blk_ok rfl, by decide, fun sB1 HB1 CB1 clB1 fpB1 => (g_one (C.blk sB1 HB1 _ _ fpB1) rfl (by first | exact Or.inl rfl | exact Or.inr rfl) (by first | exact Or.inl rfl | exact Or.inr rfl)), (fun sB1 HB1 CB1 clB1 fpB1 => pts0), fun sB1 HB1 CB1 clB1 fpB1 => (e_call (C.blk sB1 HB1 _ _ fpB1) ⟨F 29 (by decide)⟩ hrk rfl T.f__law_asked (a_cons (v 2) (a_cons (v 14) (a_cons (v 5) a_nil rfl) rfl) rfl) (by decide) rfl rfl), fun _ => rfl⟩) (e_lst false (a_cons (v 6) (a_cons (v 7) (a_cons (v 13) (a_cons (v 8) (a_cons (e_cmp (o := .inn) C (c_str (x := [104, 97, 110, 100])) (v 9) rfl) a_nil rfl) rfl) rfl) rfl) rfl)) (nomark _)) (ss_cons (s_ret c_bl)
      ss_nil) ss_nil)
      ss_nil))) (fun _ => rfl))
      (ss_cons (s_if (t_cmp (o := .ne) C (e_lc (own := [("_law_way", 14)]) C ⟨(i_rng1 rfl T.b_range (a_cons c_int a_nil rfl) rfl), blk_ok rfl, by decide, fun sB1 HB1 CB1 clB1 fpB1 => (g_one (C.blk sB1 HB1 _ _ fpB1) rfl (by first | exact Or.inl rfl | exact Or.inr rfl) (by first | exact Or.inl rfl | exact Or.inr rfl)), (fun sB1 HB1 CB1 clB1 fpB1 => pts0), fun sB1 HB1 CB1 clB1 fpB1 => (e_call (C.blk sB1 HB1 _ _ fpB1) ⟨F 29 (by decide)⟩ hrk rfl T.f__law_asked (a_cons (v 2) (a_cons (v 14) (a_cons (c_str (x := [110, 111, 110, 101])) a_nil rfl) rfl) rfl) (by decide) rfl rfl), fun _ => rfl⟩) (e_bin (o := .mul) C (e_lst false (a_cons (e_tup (a_cons (c_str (x := [114, 101, 102, 117, 115, 101, 100])) (a_cons (c_str (x := [107, 105, 110, 100])) a_nil rfl) rfl)) a_nil rfl)) c_int) (nomark _)) (ss_cons (s_ret c_bl)
      ss_nil) ss_nil)
      (ss_cons (s_setN C.nd rfl (by first | exact Or.inl rfl | exact Or.inr rfl) (e_make0 C ⟨F 19 (by decide)⟩ hrk1 T.m_Book rfl T.c_Book (by decide)) rfl (by first | exact Or.inl rfl | exact Or.inr rfl))
      (ss_cons (s_for0 C own_of (i_rng1 rfl T.b_range (a_cons c_int a_nil rfl) rfl) (g_one C rfl (by first | exact Or.inl rfl | exact Or.inr rfl) (by first | exact Or.inl rfl | exact Or.inr rfl)) (ss_cons (s_expr (e_meth C ⟨F 20 (by decide)⟩ hrk (v 15) T.k_Book T.h_Book_add (a_cons (e_bin (o := .add) C (e_bin (o := .add) C (c_str (x := [107])) (e_sub C (c_str (x := [97, 98, 99, 100, 101, 102, 103, 104, 105, 106])) (e_bin (o := .fdiv) C (v 4) c_int) (fun _ _ => rfl) (fun _ _ => rfl))) (e_sub C (c_str (x := [97, 98, 99, 100, 101, 102, 103, 104, 105, 106])) (e_bin (o := .sub) C (v 4) (e_bin (o := .mul) C (e_bin (o := .fdiv) C (v 4) c_int) c_int)) (fun _ _ => rfl) (fun _ _ => rfl))) (a_cons (e_tup (a_cons (c_str (x := [35])) a_nil rfl)) (a_cons c_int (a_cons c_bl (a_cons c_int (a_cons (e_lst false a_nil) a_nil rfl) rfl) rfl) rfl) rfl) rfl) rfl rfl rfl) rfl)
      ss_nil) (fun _ => rfl))
      (ss_cons (s_ret (e_and C.K (e_cmp (o := .eq) C (e_call C ⟨F 28 (by decide)⟩ hrk rfl T.f__law_told (a_cons (v 15) (a_cons (e_tup (a_cons (c_str (x := [109, 111, 114, 101])) (a_cons (e_tup (a_cons (c_str (x := [35])) a_nil rfl)) (a_cons c_int (a_cons c_bl (a_cons c_int (a_cons (e_lst false a_nil) a_nil rfl) rfl) rfl) rfl) rfl) rfl)) a_nil rfl) rfl) (by decide) rfl rfl) (e_tup (a_cons (c_str (x := [114, 101, 102, 117, 115, 101, 100])) (a_cons (c_str (x := [107, 105, 110, 100])) a_nil rfl) rfl)) (nomark _)) (pe_one (e_cmp (o := .eq) C (e_bi (lb_len C.K) rfl T.b_len PySem.boot_len (a_cons (e_meth0 C ⟨F 22 (by decide)⟩ hrk (v 15) T.k_Book T.h_Book_names rfl) a_nil rfl) (by decide) (by decide) rfl rfl) c_int (nomark _)))))
      ss_nil)))))))))
end
structure FxF (G : G0) : Prop where
  F_look_shape : ∃ fd, Fun G.K "look_shape" "look_shape" st_look_shape (G.fA 0) fd ∧ Binds G.K fd ["shape"] []
  F_turn_once : ∃ fd, Fun G.K "turn_once" "turn_once" st_turn_once (G.fA 1) fd ∧ Binds G.K fd ["shape"] []
  F_turned : ∃ fd, Fun G.K "turned" "turned" st_turned (G.fA 2) fd ∧ Binds G.K fd ["shape", "many"] []
  F_turns_of : ∃ fd, Fun G.K "turns_of" "turns_of" st_turns_of (G.fA 5) fd ∧ Binds G.K fd ["shape"] []
  F_look_name : ∃ fd, Fun G.K "look_name" "look_name" st_look_name (G.fA 18) fd ∧ Binds G.K fd ["name"] []
  F_Book___init__ : ∃ fd, Fun G.K "__init__" "Book.__init__" st_Book___init__ (G.fA 19) fd ∧ Binds G.K fd ["self"] []
  F_Book_add : ∃ fd, Fun G.K "add" "Book.add" st_Book_add (G.fA 20) fd ∧ Binds G.K fd ["self", "name", "shape", "most", "may_turn", "weight", "tags"] []
  F_Book_need : ∃ fd, Fun G.K "need" "Book.need" st_Book_need (G.fA 21) fd ∧ Binds G.K fd ["self", "name"] []
  F_Book_names : ∃ fd, Fun G.K "names" "Book.names" st_Book_names (G.fA 22) fd ∧ Binds G.K fd ["self"] []
  F_Book_shape : ∃ fd, Fun G.K "shape" "Book.shape" st_Book_shape (G.fA 23) fd ∧ Binds G.K fd ["self", "name"] []
  F_Book_most : ∃ fd, Fun G.K "most" "Book.most" st_Book_most (G.fA 24) fd ∧ Binds G.K fd ["self", "name"] []
  F_Book_turns : ∃ fd, Fun G.K "turns" "Book.turns" st_Book_turns (G.fA 25) fd ∧ Binds G.K fd ["self", "name"] []
  F_Book_weight : ∃ fd, Fun G.K "weight" "Book.weight" st_Book_weight (G.fA 26) fd ∧ Binds G.K fd ["self", "name"] []
  F_Book_has_tag : ∃ fd, Fun G.K "has_tag" "Book.has_tag" st_Book_has_tag (G.fA 27) fd ∧ Binds G.K fd ["self", "name", "tag"] []
  F__law_cell : ∃ fd, Fun G.K "_law_cell" "_law_cell" st__law_cell (G.fA 7) fd ∧ Binds G.K fd ["_law_script", "_law_k"] []
  F__law_mix : ∃ fd, Fun G.K "_law_mix" "_law_mix" st__law_mix (G.fA 8) fd ∧ Binds G.K fd ["_law_script", "_law_k"] []
  F__law_draw : ∃ fd, Fun G.K "_law_draw" "_law_draw" st__law_draw (G.fA 9) fd ∧ Binds G.K fd ["_law_script", "_law_town", "_law_many"] []
  F__law_pick : ∃ fd, Fun G.K "_law_pick" "_law_pick" st__law_pick (G.fA 10) fd ∧ Binds G.K fd ["_law_script", "_law_town", "_law_some"] []
  F__law_refusal : ∃ fd, Fun G.K "_law_refusal" "_law_refusal" st__law_refusal (G.fA 11) fd ∧ Binds G.K fd ["_law_held"] []
  F__law_shape : ∃ fd, Fun G.K "_law_shape" "_law_shape" st__law_shape (G.fA 12) fd ∧ Binds G.K fd ["_law_script", "_law_town", "_law_most"] []
  F__law_cells : ∃ fd, Fun G.K "_law_cells" "_law_cells" st__law_cells (G.fA 13) fd ∧ Binds G.K fd ["_law_shape_here", "_law_turn"] []
  F__law_turns : ∃ fd, Fun G.K "_law_turns" "_law_turns" st__law_turns (G.fA 15) fd ∧ Binds G.K fd ["_law_shape_here"] []
  F__law_told : ∃ fd, Fun G.K "_law_told" "_law_told" st__law_told (G.fA 28) fd ∧ Binds G.K fd ["_law_book", "_law_some"] []
  F__law_asked : ∃ fd, Fun G.K "_law_asked" "_law_asked" st__law_asked (G.fA 29) fd ∧ Binds G.K fd ["_law_book", "_law_way", "_law_name"] []
  F__law_due : ∃ fd, Fun G.K "_law_due" "_law_due" st__law_due (G.fA 30) fd ∧ Binds G.K fd ["_law_rows", "_law_some"] []
  F_law : ∃ fd, Fun G.K "law" "law" st_law (G.fA 31) fd ∧ Binds G.K fd ["_law_script"] []
section
variable {P : Program} {w : World} {G : G0} {mg : Str → Option Value} {base : Heap}
abbrev Kept (P : Program) (w : World) (G : G0) (mg : Str → Option Value) (base : Heap) (k n i : Nat) : Prop := ∃ (fd : FuncData) (ps : List Str), FnOk P w G.K mg base (L2.CX P w) k (G.fA i) fd ps (spF G (KF TB n) i) ∧ Binds G.K fd ps [] ∧ PySem.W.keepIn G.K (.ref (G.fA i)) = true
theorem z_look_shape (S : FxF G) : Kept P w G mg base 0 0 0 := by
  obtain ⟨fd, h, b⟩ := S.F_look_shape
  exact ⟨fd, _, fn_zero, b, h.kp⟩
theorem q_look_shape (T : Fx G mg) (S : FxF G) (n : Nat) (ih : ∀ i, i ∈ IDS → Kept P w G mg base (2 * n) n i) : Kept P w G mg base (2 * (n + 1)) (n + 1) 0 := by
  obtain ⟨fd, h, b⟩ := S.F_look_shape
  exact ⟨fd, _, fn_succ (m := ⟨1, 5, b_look_shape⟩) (N := N_look_shape) rfl rfl rfl h sc_look_shape (fun cdv A outer s H E hr => p_look_shape T ih _ cdv A outer s H E hr), b, h.kp⟩
theorem z_turn_once (S : FxF G) : Kept P w G mg base 0 0 1 := by
  obtain ⟨fd, h, b⟩ := S.F_turn_once
  exact ⟨fd, _, fn_zero, b, h.kp⟩
theorem q_turn_once (T : Fx G mg) (S : FxF G) (n : Nat) (ih : ∀ i, i ∈ IDS → Kept P w G mg base (2 * n) n i) : Kept P w G mg base (2 * (n + 1)) (n + 1) 1 := by
  obtain ⟨fd, h, b⟩ := S.F_turn_once
  exact ⟨fd, _, fn_succ (m := ⟨1, 3, b_turn_once⟩) (N := N_turn_once) rfl rfl rfl h sc_turn_once (fun cdv A outer s H E hr => p_turn_once T ih _ cdv A outer s H E hr), b, h.kp⟩
theorem z_turned (S : FxF G) : Kept P w G mg base 0 0 2 := by
  obtain ⟨fd, h, b⟩ := S.F_turned
  exact ⟨fd, _, fn_zero, b, h.kp⟩
theorem q_turned (T : Fx G mg) (S : FxF G) (n : Nat) (ih : ∀ i, i ∈ IDS → Kept P w G mg base (2 * n) n i) : Kept P w G mg base (2 * (n + 1)) (n + 1) 2 := by
  obtain ⟨fd, h, b⟩ := S.F_turned
  exact ⟨fd, _, fn_succ (m := ⟨2, 3, b_turned⟩) (N := N_turned) rfl rfl rfl h sc_turned (fun cdv A outer s H E hr => p_turned T ih _ cdv A outer s H E hr), b, h.kp⟩
theorem z_turns_of (S : FxF G) : Kept P w G mg base 0 0 5 := by
  obtain ⟨fd, h, b⟩ := S.F_turns_of
  exact ⟨fd, _, fn_zero, b, h.kp⟩
theorem q_turns_of (T : Fx G mg) (S : FxF G) (n : Nat) (ih : ∀ i, i ∈ IDS → Kept P w G mg base (2 * n) n i) : Kept P w G mg base (2 * (n + 1)) (n + 1) 5 := by
  obtain ⟨fd, h, b⟩ := S.F_turns_of
  exact ⟨fd, _, fn_succ (m := ⟨1, 4, b_turns_of⟩) (N := N_turns_of) rfl rfl rfl h sc_turns_of (fun cdv A outer s H E hr => p_turns_of T ih _ cdv A outer s H E hr), b, h.kp⟩
theorem z_look_name (S : FxF G) : Kept P w G mg base 0 0 18 := by
  obtain ⟨fd, h, b⟩ := S.F_look_name
  exact ⟨fd, _, fn_zero, b, h.kp⟩
theorem q_look_name (T : Fx G mg) (S : FxF G) (n : Nat) (ih : ∀ i, i ∈ IDS → Kept P w G mg base (2 * n) n i) : Kept P w G mg base (2 * (n + 1)) (n + 1) 18 := by
  obtain ⟨fd, h, b⟩ := S.F_look_name
  exact ⟨fd, _, fn_succ (m := ⟨1, 2, b_look_name⟩) (N := N_look_name) rfl rfl rfl h sc_look_name (fun cdv A outer s H E hr => p_look_name T ih _ cdv A outer s H E hr), b, h.kp⟩
theorem z_Book___init__ (S : FxF G) : Kept P w G mg base 0 0 19 := by
  obtain ⟨fd, h, b⟩ := S.F_Book___init__
  exact ⟨fd, _, fn_zero, b, h.kp⟩
theorem q_Book___init__ (T : Fx G mg) (S : FxF G) (n : Nat) (ih : ∀ i, i ∈ IDS → Kept P w G mg base (2 * n) n i) : Kept P w G mg base (2 * (n + 1)) (n + 1) 19 := by
  obtain ⟨fd, h, b⟩ := S.F_Book___init__
  exact ⟨fd, _, fn_succ (m := ⟨1, 1, b_Book___init__⟩) (N := N_Book___init__) rfl rfl rfl h sc_Book___init__ (fun cdv A outer s H E hr => p_Book___init__ T ih _ cdv A outer s H E hr), b, h.kp⟩
theorem z_Book_add (S : FxF G) : Kept P w G mg base 0 0 20 := by
  obtain ⟨fd, h, b⟩ := S.F_Book_add
  exact ⟨fd, _, fn_zero, b, h.kp⟩
theorem q_Book_add (T : Fx G mg) (S : FxF G) (n : Nat) (ih : ∀ i, i ∈ IDS → Kept P w G mg base (2 * n) n i) : Kept P w G mg base (2 * (n + 1)) (n + 1) 20 := by
  obtain ⟨fd, h, b⟩ := S.F_Book_add
  exact ⟨fd, _, fn_succ (m := ⟨7, 8, b_Book_add⟩) (N := N_Book_add) rfl rfl rfl h sc_Book_add (fun cdv A outer s H E hr => p_Book_add T ih _ cdv A outer s H E hr), b, h.kp⟩
theorem z_Book_need (S : FxF G) : Kept P w G mg base 0 0 21 := by
  obtain ⟨fd, h, b⟩ := S.F_Book_need
  exact ⟨fd, _, fn_zero, b, h.kp⟩
theorem q_Book_need (T : Fx G mg) (S : FxF G) (n : Nat) (ih : ∀ i, i ∈ IDS → Kept P w G mg base (2 * n) n i) : Kept P w G mg base (2 * (n + 1)) (n + 1) 21 := by
  obtain ⟨fd, h, b⟩ := S.F_Book_need
  exact ⟨fd, _, fn_succ (m := ⟨2, 2, b_Book_need⟩) (N := N_Book_need) rfl rfl rfl h sc_Book_need (fun cdv A outer s H E hr => p_Book_need T ih _ cdv A outer s H E hr), b, h.kp⟩
theorem z_Book_names (S : FxF G) : Kept P w G mg base 0 0 22 := by
  obtain ⟨fd, h, b⟩ := S.F_Book_names
  exact ⟨fd, _, fn_zero, b, h.kp⟩
theorem q_Book_names (T : Fx G mg) (S : FxF G) (n : Nat) (ih : ∀ i, i ∈ IDS → Kept P w G mg base (2 * n) n i) : Kept P w G mg base (2 * (n + 1)) (n + 1) 22 := by
  obtain ⟨fd, h, b⟩ := S.F_Book_names
  exact ⟨fd, _, fn_succ (m := ⟨1, 1, b_Book_names⟩) (N := N_Book_names) rfl rfl rfl h sc_Book_names (fun cdv A outer s H E hr => p_Book_names T ih _ cdv A outer s H E hr), b, h.kp⟩
theorem z_Book_shape (S : FxF G) : Kept P w G mg base 0 0 23 := by
  obtain ⟨fd, h, b⟩ := S.F_Book_shape
  exact ⟨fd, _, fn_zero, b, h.kp⟩
theorem q_Book_shape (T : Fx G mg) (S : FxF G) (n : Nat) (ih : ∀ i, i ∈ IDS → Kept P w G mg base (2 * n) n i) : Kept P w G mg base (2 * (n + 1)) (n + 1) 23 := by
  obtain ⟨fd, h, b⟩ := S.F_Book_shape
  exact ⟨fd, _, fn_succ (m := ⟨2, 2, b_Book_shape⟩) (N := N_Book_shape) rfl rfl rfl h sc_Book_shape (fun cdv A outer s H E hr => p_Book_shape T ih _ cdv A outer s H E hr), b, h.kp⟩
theorem z_Book_most (S : FxF G) : Kept P w G mg base 0 0 24 := by
  obtain ⟨fd, h, b⟩ := S.F_Book_most
  exact ⟨fd, _, fn_zero, b, h.kp⟩
theorem q_Book_most (T : Fx G mg) (S : FxF G) (n : Nat) (ih : ∀ i, i ∈ IDS → Kept P w G mg base (2 * n) n i) : Kept P w G mg base (2 * (n + 1)) (n + 1) 24 := by
  obtain ⟨fd, h, b⟩ := S.F_Book_most
  exact ⟨fd, _, fn_succ (m := ⟨2, 2, b_Book_most⟩) (N := N_Book_most) rfl rfl rfl h sc_Book_most (fun cdv A outer s H E hr => p_Book_most T ih _ cdv A outer s H E hr), b, h.kp⟩
theorem z_Book_turns (S : FxF G) : Kept P w G mg base 0 0 25 := by
  obtain ⟨fd, h, b⟩ := S.F_Book_turns
  exact ⟨fd, _, fn_zero, b, h.kp⟩
theorem q_Book_turns (T : Fx G mg) (S : FxF G) (n : Nat) (ih : ∀ i, i ∈ IDS → Kept P w G mg base (2 * n) n i) : Kept P w G mg base (2 * (n + 1)) (n + 1) 25 := by
  obtain ⟨fd, h, b⟩ := S.F_Book_turns
  exact ⟨fd, _, fn_succ (m := ⟨2, 2, b_Book_turns⟩) (N := N_Book_turns) rfl rfl rfl h sc_Book_turns (fun cdv A outer s H E hr => p_Book_turns T ih _ cdv A outer s H E hr), b, h.kp⟩
theorem z_Book_weight (S : FxF G) : Kept P w G mg base 0 0 26 := by
  obtain ⟨fd, h, b⟩ := S.F_Book_weight
  exact ⟨fd, _, fn_zero, b, h.kp⟩
theorem q_Book_weight (T : Fx G mg) (S : FxF G) (n : Nat) (ih : ∀ i, i ∈ IDS → Kept P w G mg base (2 * n) n i) : Kept P w G mg base (2 * (n + 1)) (n + 1) 26 := by
  obtain ⟨fd, h, b⟩ := S.F_Book_weight
  exact ⟨fd, _, fn_succ (m := ⟨2, 2, b_Book_weight⟩) (N := N_Book_weight) rfl rfl rfl h sc_Book_weight (fun cdv A outer s H E hr => p_Book_weight T ih _ cdv A outer s H E hr), b, h.kp⟩
theorem z_Book_has_tag (S : FxF G) : Kept P w G mg base 0 0 27 := by
  obtain ⟨fd, h, b⟩ := S.F_Book_has_tag
  exact ⟨fd, _, fn_zero, b, h.kp⟩
theorem q_Book_has_tag (T : Fx G mg) (S : FxF G) (n : Nat) (ih : ∀ i, i ∈ IDS → Kept P w G mg base (2 * n) n i) : Kept P w G mg base (2 * (n + 1)) (n + 1) 27 := by
  obtain ⟨fd, h, b⟩ := S.F_Book_has_tag
  exact ⟨fd, _, fn_succ (m := ⟨3, 3, b_Book_has_tag⟩) (N := N_Book_has_tag) rfl rfl rfl h sc_Book_has_tag (fun cdv A outer s H E hr => p_Book_has_tag T ih _ cdv A outer s H E hr), b, h.kp⟩
theorem z__law_cell (S : FxF G) : Kept P w G mg base 0 0 7 := by
  obtain ⟨fd, h, b⟩ := S.F__law_cell
  exact ⟨fd, _, fn_zero, b, h.kp⟩
theorem q__law_cell (T : Fx G mg) (S : FxF G) (n : Nat) (ih : ∀ i, i ∈ IDS → Kept P w G mg base (2 * n) n i) : Kept P w G mg base (2 * (n + 1)) (n + 1) 7 := by
  obtain ⟨fd, h, b⟩ := S.F__law_cell
  exact ⟨fd, _, fn_succ (m := ⟨2, 2, b__law_cell⟩) (N := N__law_cell) rfl rfl rfl h sc__law_cell (fun cdv A outer s H E hr => p__law_cell T ih _ cdv A outer s H E hr), b, h.kp⟩
theorem z__law_mix (S : FxF G) : Kept P w G mg base 0 0 8 := by
  obtain ⟨fd, h, b⟩ := S.F__law_mix
  exact ⟨fd, _, fn_zero, b, h.kp⟩
theorem q__law_mix (T : Fx G mg) (S : FxF G) (n : Nat) (ih : ∀ i, i ∈ IDS → Kept P w G mg base (2 * n) n i) : Kept P w G mg base (2 * (n + 1)) (n + 1) 8 := by
  obtain ⟨fd, h, b⟩ := S.F__law_mix
  exact ⟨fd, _, fn_succ (m := ⟨2, 3, b__law_mix⟩) (N := N__law_mix) rfl rfl rfl h sc__law_mix (fun cdv A outer s H E hr => p__law_mix T ih _ cdv A outer s H E hr), b, h.kp⟩
theorem z__law_draw (S : FxF G) : Kept P w G mg base 0 0 9 := by
  obtain ⟨fd, h, b⟩ := S.F__law_draw
  exact ⟨fd, _, fn_zero, b, h.kp⟩
theorem q__law_draw (T : Fx G mg) (S : FxF G) (n : Nat) (ih : ∀ i, i ∈ IDS → Kept P w G mg base (2 * n) n i) : Kept P w G mg base (2 * (n + 1)) (n + 1) 9 := by
  obtain ⟨fd, h, b⟩ := S.F__law_draw
  exact ⟨fd, _, fn_succ (m := ⟨3, 3, b__law_draw⟩) (N := N__law_draw) rfl rfl rfl h sc__law_draw (fun cdv A outer s H E hr => p__law_draw T ih _ cdv A outer s H E hr), b, h.kp⟩
theorem z__law_pick (S : FxF G) : Kept P w G mg base 0 0 10 := by
  obtain ⟨fd, h, b⟩ := S.F__law_pick
  exact ⟨fd, _, fn_zero, b, h.kp⟩
theorem q__law_pick (T : Fx G mg) (S : FxF G) (n : Nat) (ih : ∀ i, i ∈ IDS → Kept P w G mg base (2 * n) n i) : Kept P w G mg base (2 * (n + 1)) (n + 1) 10 := by
  obtain ⟨fd, h, b⟩ := S.F__law_pick
  exact ⟨fd, _, fn_succ (m := ⟨3, 3, b__law_pick⟩) (N := N__law_pick) rfl rfl rfl h sc__law_pick (fun cdv A outer s H E hr => p__law_pick T ih _ cdv A outer s H E hr), b, h.kp⟩
theorem z__law_refusal (S : FxF G) : Kept P w G mg base 0 0 11 := by
  obtain ⟨fd, h, b⟩ := S.F__law_refusal
  exact ⟨fd, _, fn_zero, b, h.kp⟩
theorem q__law_refusal (T : Fx G mg) (S : FxF G) (n : Nat) (ih : ∀ i, i ∈ IDS → Kept P w G mg base (2 * n) n i) : Kept P w G mg base (2 * (n + 1)) (n + 1) 11 := by
  obtain ⟨fd, h, b⟩ := S.F__law_refusal
  exact ⟨fd, _, fn_succ (m := ⟨1, 2, b__law_refusal⟩) (N := N__law_refusal) rfl rfl rfl h sc__law_refusal (fun cdv A outer s H E hr => p__law_refusal T ih _ cdv A outer s H E hr), b, h.kp⟩
theorem z__law_shape (S : FxF G) : Kept P w G mg base 0 0 12 := by
  obtain ⟨fd, h, b⟩ := S.F__law_shape
  exact ⟨fd, _, fn_zero, b, h.kp⟩
theorem q__law_shape (T : Fx G mg) (S : FxF G) (n : Nat) (ih : ∀ i, i ∈ IDS → Kept P w G mg base (2 * n) n i) : Kept P w G mg base (2 * (n + 1)) (n + 1) 12 := by
  obtain ⟨fd, h, b⟩ := S.F__law_shape
  exact ⟨fd, _, fn_succ (m := ⟨3, 13, b__law_shape⟩) (N := N__law_shape) rfl rfl rfl h sc__law_shape (fun cdv A outer s H E hr => p__law_shape T ih _ cdv A outer s H E hr), b, h.kp⟩
theorem z__law_cells (S : FxF G) : Kept P w G mg base 0 0 13 := by
  obtain ⟨fd, h, b⟩ := S.F__law_cells
  exact ⟨fd, _, fn_zero, b, h.kp⟩
theorem q__law_cells (T : Fx G mg) (S : FxF G) (n : Nat) (ih : ∀ i, i ∈ IDS → Kept P w G mg base (2 * n) n i) : Kept P w G mg base (2 * (n + 1)) (n + 1) 13 := by
  obtain ⟨fd, h, b⟩ := S.F__law_cells
  exact ⟨fd, _, fn_succ (m := ⟨2, 8, b__law_cells⟩) (N := N__law_cells) rfl rfl rfl h sc__law_cells (fun cdv A outer s H E hr => p__law_cells T ih _ cdv A outer s H E hr), b, h.kp⟩
theorem z__law_turns (S : FxF G) : Kept P w G mg base 0 0 15 := by
  obtain ⟨fd, h, b⟩ := S.F__law_turns
  exact ⟨fd, _, fn_zero, b, h.kp⟩
theorem q__law_turns (T : Fx G mg) (S : FxF G) (n : Nat) (ih : ∀ i, i ∈ IDS → Kept P w G mg base (2 * n) n i) : Kept P w G mg base (2 * (n + 1)) (n + 1) 15 := by
  obtain ⟨fd, h, b⟩ := S.F__law_turns
  exact ⟨fd, _, fn_succ (m := ⟨1, 5, b__law_turns⟩) (N := N__law_turns) rfl rfl rfl h sc__law_turns (fun cdv A outer s H E hr => p__law_turns T ih _ cdv A outer s H E hr), b, h.kp⟩
theorem z__law_told (S : FxF G) : Kept P w G mg base 0 0 28 := by
  obtain ⟨fd, h, b⟩ := S.F__law_told
  exact ⟨fd, _, fn_zero, b, h.kp⟩
theorem q__law_told (T : Fx G mg) (S : FxF G) (n : Nat) (ih : ∀ i, i ∈ IDS → Kept P w G mg base (2 * n) n i) : Kept P w G mg base (2 * (n + 1)) (n + 1) 28 := by
  obtain ⟨fd, h, b⟩ := S.F__law_told
  exact ⟨fd, _, fn_succ (m := ⟨2, 5, b__law_told_2⟩) (N := N__law_told) rfl rfl rfl h sc__law_told (fun cdv A outer s H E hr => p__law_told T ih _ cdv A outer s H E hr), b, h.kp⟩
theorem z__law_asked (S : FxF G) : Kept P w G mg base 0 0 29 := by
  obtain ⟨fd, h, b⟩ := S.F__law_asked
  exact ⟨fd, _, fn_zero, b, h.kp⟩
theorem q__law_asked (T : Fx G mg) (S : FxF G) (n : Nat) (ih : ∀ i, i ∈ IDS → Kept P w G mg base (2 * n) n i) : Kept P w G mg base (2 * (n + 1)) (n + 1) 29 := by
  obtain ⟨fd, h, b⟩ := S.F__law_asked
  exact ⟨fd, _, fn_succ (m := ⟨3, 6, b__law_asked⟩) (N := N__law_asked) rfl rfl rfl h sc__law_asked (fun cdv A outer s H E hr => p__law_asked T ih _ cdv A outer s H E hr), b, h.kp⟩
theorem z__law_due (S : FxF G) : Kept P w G mg base 0 0 30 := by
  obtain ⟨fd, h, b⟩ := S.F__law_due
  exact ⟨fd, _, fn_zero, b, h.kp⟩
theorem q__law_due (T : Fx G mg) (S : FxF G) (n : Nat) (ih : ∀ i, i ∈ IDS → Kept P w G mg base (2 * n) n i) : Kept P w G mg base (2 * (n + 1)) (n + 1) 30 := by
  obtain ⟨fd, h, b⟩ := S.F__law_due
  exact ⟨fd, _, fn_succ (m := ⟨2, 8, b__law_due⟩) (N := N__law_due) rfl rfl rfl h sc__law_due (fun cdv A outer s H E hr => p__law_due T ih _ cdv A outer s H E hr), b, h.kp⟩
theorem z_law (S : FxF G) : Kept P w G mg base 0 0 31 := by
  obtain ⟨fd, h, b⟩ := S.F_law
  exact ⟨fd, _, fn_zero, b, h.kp⟩
theorem q_law (T : Fx G mg) (S : FxF G) (n : Nat) (ih : ∀ i, i ∈ IDS → Kept P w G mg base (2 * n) n i) : Kept P w G mg base (2 * (n + 1)) (n + 1) 31 := by
  obtain ⟨fd, h, b⟩ := S.F_law
  exact ⟨fd, _, fn_succ (m := ⟨1, 16, b_law_2⟩) (N := N_law) rfl rfl rfl h sc_law (fun cdv A outer s H E hr => p_law T ih _ cdv A outer s H E hr), b, h.kp⟩
theorem fns_ok (T : Fx G mg) (S : FxF G) : ∀ n i : Nat, i ∈ IDS → Kept P w G mg base (2 * n) n i := by
  intro n
  induction n with
  | zero => exact List.forall_mem_cons.mpr ⟨z_look_shape S, List.forall_mem_cons.mpr ⟨z_turn_once S, List.forall_mem_cons.mpr ⟨z_turned S, List.forall_mem_cons.mpr ⟨z_turns_of S, List.forall_mem_cons.mpr ⟨z_look_name S, List.forall_mem_cons.mpr ⟨z_Book___init__ S, List.forall_mem_cons.mpr ⟨z_Book_add S, List.forall_mem_cons.mpr ⟨z_Book_need S, List.forall_mem_cons.mpr ⟨z_Book_names S, List.forall_mem_cons.mpr ⟨z_Book_shape S, List.forall_mem_cons.mpr ⟨z_Book_most S, List.forall_mem_cons.mpr ⟨z_Book_turns S, List.forall_mem_cons.mpr ⟨z_Book_weight S, List.forall_mem_cons.mpr ⟨z_Book_has_tag S, List.forall_mem_cons.mpr ⟨z__law_cell S, List.forall_mem_cons.mpr ⟨z__law_mix S, List.forall_mem_cons.mpr ⟨z__law_draw S, List.forall_mem_cons.mpr ⟨z__law_pick S, List.forall_mem_cons.mpr ⟨z__law_refusal S, List.forall_mem_cons.mpr ⟨z__law_shape S, List.forall_mem_cons.mpr ⟨z__law_cells S, List.forall_mem_cons.mpr ⟨z__law_turns S, List.forall_mem_cons.mpr ⟨z__law_told S, List.forall_mem_cons.mpr ⟨z__law_asked S, List.forall_mem_cons.mpr ⟨z__law_due S, List.forall_mem_cons.mpr ⟨z_law S, fun _ h => (List.not_mem_nil h).elim⟩⟩⟩⟩⟩⟩⟩⟩⟩⟩⟩⟩⟩⟩⟩⟩⟩⟩⟩⟩⟩⟩⟩⟩⟩⟩
  | succ n ih => exact List.forall_mem_cons.mpr ⟨q_look_shape T S n ih, List.forall_mem_cons.mpr ⟨q_turn_once T S n ih, List.forall_mem_cons.mpr ⟨q_turned T S n ih, List.forall_mem_cons.mpr ⟨q_turns_of T S n ih, List.forall_mem_cons.mpr ⟨q_look_name T S n ih, List.forall_mem_cons.mpr ⟨q_Book___init__ T S n ih, List.forall_mem_cons.mpr ⟨q_Book_add T S n ih, List.forall_mem_cons.mpr ⟨q_Book_need T S n ih, List.forall_mem_cons.mpr ⟨q_Book_names T S n ih, List.forall_mem_cons.mpr ⟨q_Book_shape T S n ih, List.forall_mem_cons.mpr ⟨q_Book_most T S n ih, List.forall_mem_cons.mpr ⟨q_Book_turns T S n ih, List.forall_mem_cons.mpr ⟨q_Book_weight T S n ih, List.forall_mem_cons.mpr ⟨q_Book_has_tag T S n ih, List.forall_mem_cons.mpr ⟨q__law_cell T S n ih, List.forall_mem_cons.mpr ⟨q__law_mix T S n ih, List.forall_mem_cons.mpr ⟨q__law_draw T S n ih, List.forall_mem_cons.mpr ⟨q__law_pick T S n ih, List.forall_mem_cons.mpr ⟨q__law_refusal T S n ih, List.forall_mem_cons.mpr ⟨q__law_shape T S n ih, List.forall_mem_cons.mpr ⟨q__law_cells T S n ih, List.forall_mem_cons.mpr ⟨q__law_turns T S n ih, List.forall_mem_cons.mpr ⟨q__law_told T S n ih, List.forall_mem_cons.mpr ⟨q__law_asked T S n ih, List.forall_mem_cons.mpr ⟨q__law_due T S n ih, List.forall_mem_cons.mpr ⟨q_law T S n ih, fun _ h => (List.not_mem_nil h).elim⟩⟩⟩⟩⟩⟩⟩⟩⟩⟩⟩⟩⟩⟩⟩⟩⟩⟩⟩⟩⟩⟩⟩⟩⟩⟩
theorem fn_law {n : Nat} (T : Fx G mg) (S : FxF G) {fd : FuncData} (F : Fun G.K "law" "law" st_law (G.fA 31) fd) : FnOk P w G.K mg base (L2.CX P w) (2 * n + 2) (G.fA 31) fd ["_law_script"] (spF G (KF TB (n + 1)) 31) :=
  fn_succ (m := ⟨1, 16, b_law_2⟩) (N := N_law) rfl rfl rfl F sc_law (fun cdv A outer s H E hr => p_law T (fns_ok T S n) _ cdv A outer s H E hr)
end
def cAs (C0 C1 C2 C3 C4 C5 C6 C7 C18 : Addr) : Nat → Addr
  | 0 => C0
  | 1 => C1
  | 2 => C2
  | 3 => C3
  | 4 => C4
  | 5 => C5
  | 6 => C6
  | 7 => C7
  | 18 => C18
  | _ => C0
def fAs (f0 f1 f2 f5 f18 f19 f20 f21 f22 f23 f24 f25 f26 f27 f7 f8 f9 f10 f11 f12 f13 f15 f28 f29 f30 f31 : Addr) : Nat → Addr
  | 0 => f0
  | 1 => f1
  | 2 => f2
  | 5 => f5
  | 18 => f18
  | 19 => f19
  | 20 => f20
  | 21 => f21
  | 22 => f22
  | 23 => f23
  | 24 => f24
  | 25 => f25
  | 26 => f26
  | 27 => f27
  | 7 => f7
  | 8 => f8
  | 9 => f9
  | 10 => f10
  | 11 => f11
  | 12 => f12
  | 13 => f13
  | 15 => f15
  | 28 => f28
  | 29 => f29
  | 30 => f30
  | 31 => f31
  | _ => f0
theorem all_mk (hpure : ∀ ns : List Int, ns.length ≤ 63 → ∃ s, runF TB 6 31 [.scr ns] ⟨[], []⟩ = .ok (.bl true) s) {l : PySem.W.OpenLaw} {w : World} {K : PySem.W.Frag} {h : Heap} {mg : Str → Option Value} {fa C0 C1 C2 C3 C4 C5 C6 C7 C18 f0 f1 f2 f5 f18 f19 f20 f21 f22 f23 f24 f25 f26 f27 f7 f8 f9 f10 f11 f12 f13 f15 f28 f29 f30 f31 : Addr} (X : K.In h) (Gm : h.Ns mainGlobals mg) (hfa : mg "law" = some (.ref fa))
    {od0 an0 : Option Addr} {sl0 : Array (Option Value)} {oc0 kV0 dc0 pm0 cd0 ct0 : Value}
    {od1 an1 : Option Addr} {sl1 : Array (Option Value)} {oc1 kV1 dc1 pm1 cd1 ct1 : Value}
    {od2 an2 : Option Addr} {sl2 : Array (Option Value)} {oc2 kV2 dc2 pm2 cd2 ct2 : Value}
    {od5 an5 : Option Addr} {sl5 : Array (Option Value)} {oc5 kV5 dc5 pm5 cd5 ct5 : Value}
    {od18 an18 : Option Addr} {sl18 : Array (Option Value)} {oc18 kV18 dc18 pm18 cd18 ct18 : Value}
    {od19 an19 : Option Addr} {sl19 : Array (Option Value)} {oc19 kV19 dc19 pm19 cd19 ct19 : Value}
    {od20 an20 : Option Addr} {sl20 : Array (Option Value)} {oc20 kV20 dc20 pm20 cd20 ct20 : Value}
    {od21 an21 : Option Addr} {sl21 : Array (Option Value)} {oc21 kV21 dc21 pm21 cd21 ct21 : Value}
    {od22 an22 : Option Addr} {sl22 : Array (Option Value)} {oc22 kV22 dc22 pm22 cd22 ct22 : Value}
    {od23 an23 : Option Addr} {sl23 : Array (Option Value)} {oc23 kV23 dc23 pm23 cd23 ct23 : Value}
    {od24 an24 : Option Addr} {sl24 : Array (Option Value)} {oc24 kV24 dc24 pm24 cd24 ct24 : Value}
    {od25 an25 : Option Addr} {sl25 : Array (Option Value)} {oc25 kV25 dc25 pm25 cd25 ct25 : Value}
    {od26 an26 : Option Addr} {sl26 : Array (Option Value)} {oc26 kV26 dc26 pm26 cd26 ct26 : Value}
    {od27 an27 : Option Addr} {sl27 : Array (Option Value)} {oc27 kV27 dc27 pm27 cd27 ct27 : Value}
    {od7 an7 : Option Addr} {sl7 : Array (Option Value)} {oc7 kV7 dc7 pm7 cd7 ct7 : Value}
    {od8 an8 : Option Addr} {sl8 : Array (Option Value)} {oc8 kV8 dc8 pm8 cd8 ct8 : Value}
    {od9 an9 : Option Addr} {sl9 : Array (Option Value)} {oc9 kV9 dc9 pm9 cd9 ct9 : Value}
    {od10 an10 : Option Addr} {sl10 : Array (Option Value)} {oc10 kV10 dc10 pm10 cd10 ct10 : Value}
    {od11 an11 : Option Addr} {sl11 : Array (Option Value)} {oc11 kV11 dc11 pm11 cd11 ct11 : Value}
    {od12 an12 : Option Addr} {sl12 : Array (Option Value)} {oc12 kV12 dc12 pm12 cd12 ct12 : Value}
    {od13 an13 : Option Addr} {sl13 : Array (Option Value)} {oc13 kV13 dc13 pm13 cd13 ct13 : Value}
    {od15 an15 : Option Addr} {sl15 : Array (Option Value)} {oc15 kV15 dc15 pm15 cd15 ct15 : Value}
    {od28 an28 : Option Addr} {sl28 : Array (Option Value)} {oc28 kV28 dc28 pm28 cd28 ct28 : Value}
    {od29 an29 : Option Addr} {sl29 : Array (Option Value)} {oc29 kV29 dc29 pm29 cd29 ct29 : Value}
    {od30 an30 : Option Addr} {sl30 : Array (Option Value)} {oc30 kV30 dc30 pm30 cd30 ct30 : Value}
    {od31 an31 : Option Addr} {sl31 : Array (Option Value)} {oc31 kV31 dc31 pm31 cd31 ct31 : Value}
    {t_CELL : Tok}
    {t_GAP : Tok}
    {t_MOST_KINDS : Tok}
    {t_MOST_NAME : Tok}
    {t_MOST_PILE : Tok}
    {t_MOST_SIDE : Tok}
    {t_MOST_WEIGHT : Tok}
    {t_SMALL : Tok}
    (a_C0 : PySem.W.nsIn K mainGlobals "BagError" = some (some (.ref C0)))
    (a_C1 : PySem.W.nsIn K mainGlobals "BadShape" = some (some (.ref C1)))
    (a_C2 : PySem.W.nsIn K mainGlobals "BadKind" = some (some (.ref C2)))
    (a_C3 : PySem.W.nsIn K mainGlobals "BadNumber" = some (some (.ref C3)))
    (a_C4 : PySem.W.nsIn K mainGlobals "BadPlace" = some (some (.ref C4)))
    (a_C5 : PySem.W.nsIn K mainGlobals "BadPile" = some (some (.ref C5)))
    (a_C6 : PySem.W.nsIn K mainGlobals "BadSlot" = some (some (.ref C6)))
    (a_C7 : PySem.W.nsIn K mainGlobals "BadText" = some (some (.ref C7)))
    (a_C18 : PySem.W.nsIn K mainGlobals "Book" = some (some (.ref C18)))
    (a_f0 : PySem.W.nsIn K mainGlobals "look_shape" = some (some (.ref f0)))
    (l_f0 : K.lookup f0 = some ⟨oc0, od0, .func (PySem.W.fnOf "look_shape" "look_shape" (defArgs st_look_shape) (defBody st_look_shape) (defScope st_look_shape) .none kV0 dc0 pm0 an0 cd0 ct0), sl0⟩)
    (c_f0 : PySem.W.codeIn K cd0 "look_shape" = true)
    (k_f0 : PySem.W.keepIn K (.ref f0) = true)
    (a_f1 : PySem.W.nsIn K mainGlobals "turn_once" = some (some (.ref f1)))
    (l_f1 : K.lookup f1 = some ⟨oc1, od1, .func (PySem.W.fnOf "turn_once" "turn_once" (defArgs st_turn_once) (defBody st_turn_once) (defScope st_turn_once) .none kV1 dc1 pm1 an1 cd1 ct1), sl1⟩)
    (c_f1 : PySem.W.codeIn K cd1 "turn_once" = true)
    (k_f1 : PySem.W.keepIn K (.ref f1) = true)
    (a_f2 : PySem.W.nsIn K mainGlobals "turned" = some (some (.ref f2)))
    (l_f2 : K.lookup f2 = some ⟨oc2, od2, .func (PySem.W.fnOf "turned" "turned" (defArgs st_turned) (defBody st_turned) (defScope st_turned) .none kV2 dc2 pm2 an2 cd2 ct2), sl2⟩)
    (c_f2 : PySem.W.codeIn K cd2 "turned" = true)
    (k_f2 : PySem.W.keepIn K (.ref f2) = true)
    (a_f5 : PySem.W.nsIn K mainGlobals "turns_of" = some (some (.ref f5)))
    (l_f5 : K.lookup f5 = some ⟨oc5, od5, .func (PySem.W.fnOf "turns_of" "turns_of" (defArgs st_turns_of) (defBody st_turns_of) (defScope st_turns_of) .none kV5 dc5 pm5 an5 cd5 ct5), sl5⟩)
    (c_f5 : PySem.W.codeIn K cd5 "turns_of" = true)
    (k_f5 : PySem.W.keepIn K (.ref f5) = true)
    (a_f18 : PySem.W.nsIn K mainGlobals "look_name" = some (some (.ref f18)))
    (l_f18 : K.lookup f18 = some ⟨oc18, od18, .func (PySem.W.fnOf "look_name" "look_name" (defArgs st_look_name) (defBody st_look_name) (defScope st_look_name) .none kV18 dc18 pm18 an18 cd18 ct18), sl18⟩)
    (c_f18 : PySem.W.codeIn K cd18 "look_name" = true)
    (k_f18 : PySem.W.keepIn K (.ref f18) = true)
    (a_f19 : PySem.W.findIn K (.ref C18) "__init__" = some (some (.ref f19)))
    (i_f19 : PySem.W.isFn K (.ref f19) = true)
    (l_f19 : K.lookup f19 = some ⟨oc19, od19, .func (PySem.W.fnOf "__init__" "Book.__init__" (defArgs st_Book___init__) (defBody st_Book___init__) (defScope st_Book___init__) .none kV19 dc19 pm19 an19 cd19 ct19), sl19⟩)
    (c_f19 : PySem.W.codeIn K cd19 "Book.__init__" = true)
    (k_f19 : PySem.W.keepIn K (.ref f19) = true)
    (a_f20 : PySem.W.findIn K (.ref C18) "add" = some (some (.ref f20)))
    (i_f20 : PySem.W.isFn K (.ref f20) = true)
    (l_f20 : K.lookup f20 = some ⟨oc20, od20, .func (PySem.W.fnOf "add" "Book.add" (defArgs st_Book_add) (defBody st_Book_add) (defScope st_Book_add) .none kV20 dc20 pm20 an20 cd20 ct20), sl20⟩)
    (c_f20 : PySem.W.codeIn K cd20 "Book.add" = true)
    (k_f20 : PySem.W.keepIn K (.ref f20) = true)
    (a_f21 : PySem.W.findIn K (.ref C18) "need" = some (some (.ref f21)))
    (i_f21 : PySem.W.isFn K (.ref f21) = true)
    (l_f21 : K.lookup f21 = some ⟨oc21, od21, .func (PySem.W.fnOf "need" "Book.need" (defArgs st_Book_need) (defBody st_Book_need) (defScope st_Book_need) .none kV21 dc21 pm21 an21 cd21 ct21), sl21⟩)
    (c_f21 : PySem.W.codeIn K cd21 "Book.need" = true)
    (k_f21 : PySem.W.keepIn K (.ref f21) = true)
    (a_f22 : PySem.W.findIn K (.ref C18) "names" = some (some (.ref f22)))
    (i_f22 : PySem.W.isFn K (.ref f22) = true)
    (l_f22 : K.lookup f22 = some ⟨oc22, od22, .func (PySem.W.fnOf "names" "Book.names" (defArgs st_Book_names) (defBody st_Book_names) (defScope st_Book_names) .none kV22 dc22 pm22 an22 cd22 ct22), sl22⟩)
    (c_f22 : PySem.W.codeIn K cd22 "Book.names" = true)
    (k_f22 : PySem.W.keepIn K (.ref f22) = true)
    (a_f23 : PySem.W.findIn K (.ref C18) "shape" = some (some (.ref f23)))
    (i_f23 : PySem.W.isFn K (.ref f23) = true)
    (l_f23 : K.lookup f23 = some ⟨oc23, od23, .func (PySem.W.fnOf "shape" "Book.shape" (defArgs st_Book_shape) (defBody st_Book_shape) (defScope st_Book_shape) .none kV23 dc23 pm23 an23 cd23 ct23), sl23⟩)
    (c_f23 : PySem.W.codeIn K cd23 "Book.shape" = true)
    (k_f23 : PySem.W.keepIn K (.ref f23) = true)
    (a_f24 : PySem.W.findIn K (.ref C18) "most" = some (some (.ref f24)))
    (i_f24 : PySem.W.isFn K (.ref f24) = true)
    (l_f24 : K.lookup f24 = some ⟨oc24, od24, .func (PySem.W.fnOf "most" "Book.most" (defArgs st_Book_most) (defBody st_Book_most) (defScope st_Book_most) .none kV24 dc24 pm24 an24 cd24 ct24), sl24⟩)
    (c_f24 : PySem.W.codeIn K cd24 "Book.most" = true)
    (k_f24 : PySem.W.keepIn K (.ref f24) = true)
    (a_f25 : PySem.W.findIn K (.ref C18) "turns" = some (some (.ref f25)))
    (i_f25 : PySem.W.isFn K (.ref f25) = true)
    (l_f25 : K.lookup f25 = some ⟨oc25, od25, .func (PySem.W.fnOf "turns" "Book.turns" (defArgs st_Book_turns) (defBody st_Book_turns) (defScope st_Book_turns) .none kV25 dc25 pm25 an25 cd25 ct25), sl25⟩)
    (c_f25 : PySem.W.codeIn K cd25 "Book.turns" = true)
    (k_f25 : PySem.W.keepIn K (.ref f25) = true)
    (a_f26 : PySem.W.findIn K (.ref C18) "weight" = some (some (.ref f26)))
    (i_f26 : PySem.W.isFn K (.ref f26) = true)
    (l_f26 : K.lookup f26 = some ⟨oc26, od26, .func (PySem.W.fnOf "weight" "Book.weight" (defArgs st_Book_weight) (defBody st_Book_weight) (defScope st_Book_weight) .none kV26 dc26 pm26 an26 cd26 ct26), sl26⟩)
    (c_f26 : PySem.W.codeIn K cd26 "Book.weight" = true)
    (k_f26 : PySem.W.keepIn K (.ref f26) = true)
    (a_f27 : PySem.W.findIn K (.ref C18) "has_tag" = some (some (.ref f27)))
    (i_f27 : PySem.W.isFn K (.ref f27) = true)
    (l_f27 : K.lookup f27 = some ⟨oc27, od27, .func (PySem.W.fnOf "has_tag" "Book.has_tag" (defArgs st_Book_has_tag) (defBody st_Book_has_tag) (defScope st_Book_has_tag) .none kV27 dc27 pm27 an27 cd27 ct27), sl27⟩)
    (c_f27 : PySem.W.codeIn K cd27 "Book.has_tag" = true)
    (k_f27 : PySem.W.keepIn K (.ref f27) = true)
    (a_f7 : PySem.W.nsIn K mainGlobals "_law_cell" = some (some (.ref f7)))
    (l_f7 : K.lookup f7 = some ⟨oc7, od7, .func (PySem.W.fnOf "_law_cell" "_law_cell" (defArgs st__law_cell) (defBody st__law_cell) (defScope st__law_cell) .none kV7 dc7 pm7 an7 cd7 ct7), sl7⟩)
    (c_f7 : PySem.W.codeIn K cd7 "_law_cell" = true)
    (k_f7 : PySem.W.keepIn K (.ref f7) = true)
    (a_f8 : PySem.W.nsIn K mainGlobals "_law_mix" = some (some (.ref f8)))
    (l_f8 : K.lookup f8 = some ⟨oc8, od8, .func (PySem.W.fnOf "_law_mix" "_law_mix" (defArgs st__law_mix) (defBody st__law_mix) (defScope st__law_mix) .none kV8 dc8 pm8 an8 cd8 ct8), sl8⟩)
    (c_f8 : PySem.W.codeIn K cd8 "_law_mix" = true)
    (k_f8 : PySem.W.keepIn K (.ref f8) = true)
    (a_f9 : PySem.W.nsIn K mainGlobals "_law_draw" = some (some (.ref f9)))
    (l_f9 : K.lookup f9 = some ⟨oc9, od9, .func (PySem.W.fnOf "_law_draw" "_law_draw" (defArgs st__law_draw) (defBody st__law_draw) (defScope st__law_draw) .none kV9 dc9 pm9 an9 cd9 ct9), sl9⟩)
    (c_f9 : PySem.W.codeIn K cd9 "_law_draw" = true)
    (k_f9 : PySem.W.keepIn K (.ref f9) = true)
    (a_f10 : PySem.W.nsIn K mainGlobals "_law_pick" = some (some (.ref f10)))
    (l_f10 : K.lookup f10 = some ⟨oc10, od10, .func (PySem.W.fnOf "_law_pick" "_law_pick" (defArgs st__law_pick) (defBody st__law_pick) (defScope st__law_pick) .none kV10 dc10 pm10 an10 cd10 ct10), sl10⟩)
    (c_f10 : PySem.W.codeIn K cd10 "_law_pick" = true)
    (k_f10 : PySem.W.keepIn K (.ref f10) = true)
    (a_f11 : PySem.W.nsIn K mainGlobals "_law_refusal" = some (some (.ref f11)))
    (l_f11 : K.lookup f11 = some ⟨oc11, od11, .func (PySem.W.fnOf "_law_refusal" "_law_refusal" (defArgs st__law_refusal) (defBody st__law_refusal) (defScope st__law_refusal) .none kV11 dc11 pm11 an11 cd11 ct11), sl11⟩)
    (c_f11 : PySem.W.codeIn K cd11 "_law_refusal" = true)
    (k_f11 : PySem.W.keepIn K (.ref f11) = true)
    (a_f12 : PySem.W.nsIn K mainGlobals "_law_shape" = some (some (.ref f12)))
    (l_f12 : K.lookup f12 = some ⟨oc12, od12, .func (PySem.W.fnOf "_law_shape" "_law_shape" (defArgs st__law_shape) (defBody st__law_shape) (defScope st__law_shape) .none kV12 dc12 pm12 an12 cd12 ct12), sl12⟩)
    (c_f12 : PySem.W.codeIn K cd12 "_law_shape" = true)
    (k_f12 : PySem.W.keepIn K (.ref f12) = true)
    (a_f13 : PySem.W.nsIn K mainGlobals "_law_cells" = some (some (.ref f13)))
    (l_f13 : K.lookup f13 = some ⟨oc13, od13, .func (PySem.W.fnOf "_law_cells" "_law_cells" (defArgs st__law_cells) (defBody st__law_cells) (defScope st__law_cells) .none kV13 dc13 pm13 an13 cd13 ct13), sl13⟩)
    (c_f13 : PySem.W.codeIn K cd13 "_law_cells" = true)
    (k_f13 : PySem.W.keepIn K (.ref f13) = true)
    (a_f15 : PySem.W.nsIn K mainGlobals "_law_turns" = some (some (.ref f15)))
    (l_f15 : K.lookup f15 = some ⟨oc15, od15, .func (PySem.W.fnOf "_law_turns" "_law_turns" (defArgs st__law_turns) (defBody st__law_turns) (defScope st__law_turns) .none kV15 dc15 pm15 an15 cd15 ct15), sl15⟩)
    (c_f15 : PySem.W.codeIn K cd15 "_law_turns" = true)
    (k_f15 : PySem.W.keepIn K (.ref f15) = true)
    (a_f28 : PySem.W.nsIn K mainGlobals "_law_told" = some (some (.ref f28)))
    (l_f28 : K.lookup f28 = some ⟨oc28, od28, .func (PySem.W.fnOf "_law_told" "_law_told" (defArgs st__law_told) (defBody st__law_told) (defScope st__law_told) .none kV28 dc28 pm28 an28 cd28 ct28), sl28⟩)
    (c_f28 : PySem.W.codeIn K cd28 "_law_told" = true)
    (k_f28 : PySem.W.keepIn K (.ref f28) = true)
    (a_f29 : PySem.W.nsIn K mainGlobals "_law_asked" = some (some (.ref f29)))
    (l_f29 : K.lookup f29 = some ⟨oc29, od29, .func (PySem.W.fnOf "_law_asked" "_law_asked" (defArgs st__law_asked) (defBody st__law_asked) (defScope st__law_asked) .none kV29 dc29 pm29 an29 cd29 ct29), sl29⟩)
    (c_f29 : PySem.W.codeIn K cd29 "_law_asked" = true)
    (k_f29 : PySem.W.keepIn K (.ref f29) = true)
    (a_f30 : PySem.W.nsIn K mainGlobals "_law_due" = some (some (.ref f30)))
    (l_f30 : K.lookup f30 = some ⟨oc30, od30, .func (PySem.W.fnOf "_law_due" "_law_due" (defArgs st__law_due) (defBody st__law_due) (defScope st__law_due) .none kV30 dc30 pm30 an30 cd30 ct30), sl30⟩)
    (c_f30 : PySem.W.codeIn K cd30 "_law_due" = true)
    (k_f30 : PySem.W.keepIn K (.ref f30) = true)
    (a_f31 : PySem.W.nsIn K mainGlobals "law" = some (some (.ref f31)))
    (l_f31 : K.lookup f31 = some ⟨oc31, od31, .func (PySem.W.fnOf "law" "law" (defArgs st_law) (defBody st_law) (defScope st_law) .none kV31 dc31 pm31 an31 cd31 ct31), sl31⟩)
    (c_f31 : PySem.W.codeIn K cd31 "law" = true)
    (k_f31 : PySem.W.keepIn K (.ref f31) = true)
    (pg_18 : PySem.W.plainGet K C18 Str.empty = true)
    (hd_18 : PySem.W.hasDictIn K C18 = true)
    (po_18 : PySem.W.plainOver K C18 = true)
    (sa_18 : PySem.W.findIn K (.ref C18) "__setattr__" = some (some (.builtin "object.__setattr__")))
    (na_18_rows : PySem.W.findIn K (.ref C18) "rows" = some none)
    (mk_18 : PySem.W.makesIn K C18 = true)
    (kc_18 : PySem.W.keepIn K (.ref C18) = true)
    (g_CELL : PySem.W.nsIn K mainGlobals "CELL" = some (some (.str (tx [35]) t_CELL)))
    (g_GAP : PySem.W.nsIn K mainGlobals "GAP" = some (some (.str (tx [46]) t_GAP)))
    (g_MOST_KINDS : PySem.W.nsIn K mainGlobals "MOST_KINDS" = some (some (.int 30 t_MOST_KINDS)))
    (g_MOST_NAME : PySem.W.nsIn K mainGlobals "MOST_NAME" = some (some (.int 8 t_MOST_NAME)))
    (g_MOST_PILE : PySem.W.nsIn K mainGlobals "MOST_PILE" = some (some (.int 99 t_MOST_PILE)))
    (g_MOST_SIDE : PySem.W.nsIn K mainGlobals "MOST_SIDE" = some (some (.int 4 t_MOST_SIDE)))
    (g_MOST_WEIGHT : PySem.W.nsIn K mainGlobals "MOST_WEIGHT" = some (some (.int 999 t_MOST_WEIGHT)))
    (g_SMALL : PySem.W.nsIn K mainGlobals "SMALL" = some (some (.str (tx [97, 98, 99, 100, 101, 102, 103, 104, 105, 106, 107, 108, 109, 110, 111, 112, 113, 114, 115, 116, 117, 118, 119, 120, 121, 122]) t_SMALL)))
    (z_ValueError : PySem.W.nsIn K mainGlobals "ValueError" = some none)
    (z_all : PySem.W.nsIn K mainGlobals "all" = some none)
    (z_any : PySem.W.nsIn K mainGlobals "any" = some none)
    (z_int : PySem.W.nsIn K mainGlobals "int" = some none)
    (z_isinstance : PySem.W.nsIn K mainGlobals "isinstance" = some none)
    (z_len : PySem.W.nsIn K mainGlobals "len" = some none)
    (z_max : PySem.W.nsIn K mainGlobals "max" = some none)
    (z_min : PySem.W.nsIn K mainGlobals "min" = some none)
    (z_range : PySem.W.nsIn K mainGlobals "range" = some none)
    (z_set : PySem.W.nsIn K mainGlobals "set" = some none)
    (z_sorted : PySem.W.nsIn K mainGlobals "sorted" = some none)
    (z_tuple : PySem.W.nsIn K mainGlobals "tuple" = some none)
    (s_0 : PySem.W.subIn K (.ref C0) (.type "BaseException") = some true)
    (t_0 : PySem.W.typeIn K (.ref C0) = some (.type "type"))
    (u_0 : PySem.W.subIn K (.ref C0) (.ref C0) = some true)
    (ga_0 : PySem.W.findIn K (.ref C0) "__getattribute__" = some (some (.builtin "BaseException.__getattribute__")))
    (gg_0 : PySem.W.findIn K (.ref C0) "__getattr__" = some none)
    (hd_0 : PySem.W.hasDictIn K C0 = true)
    (ha_0 : PySem.W.findIn K (.ref C0) "__class__" = some (some (.builtin "object.__class__")))
    (mo_0 : PySem.W.mroIn K C0 (.type "object") = some true)
    (kv_0 : PySem.W.kitOne K (.ref C0) (.type "ValueError") = some true)
    (ko_0_1 : PySem.W.kitOne K (.ref C0) (.ref C1) = some false)
    (ko_0_2 : PySem.W.kitOne K (.ref C0) (.ref C2) = some false)
    (ko_0_3 : PySem.W.kitOne K (.ref C0) (.ref C3) = some false)
    (ko_0_4 : PySem.W.kitOne K (.ref C0) (.ref C4) = some false)
    (ko_0_5 : PySem.W.kitOne K (.ref C0) (.ref C5) = some false)
    (ko_0_6 : PySem.W.kitOne K (.ref C0) (.ref C6) = some false)
    (ko_0_7 : PySem.W.kitOne K (.ref C0) (.ref C7) = some false)
    (s_1 : PySem.W.subIn K (.ref C1) (.type "BaseException") = some true)
    (t_1 : PySem.W.typeIn K (.ref C1) = some (.type "type"))
    (u_1 : PySem.W.subIn K (.ref C1) (.ref C0) = some true)
    (ga_1 : PySem.W.findIn K (.ref C1) "__getattribute__" = some (some (.builtin "BaseException.__getattribute__")))
    (gg_1 : PySem.W.findIn K (.ref C1) "__getattr__" = some none)
    (hd_1 : PySem.W.hasDictIn K C1 = true)
    (ha_1 : PySem.W.findIn K (.ref C1) "__class__" = some (some (.builtin "object.__class__")))
    (mo_1 : PySem.W.mroIn K C1 (.type "object") = some true)
    (kv_1 : PySem.W.kitOne K (.ref C1) (.type "ValueError") = some true)
    (ko_1_1 : PySem.W.kitOne K (.ref C1) (.ref C1) = some true)
    (ko_1_2 : PySem.W.kitOne K (.ref C1) (.ref C2) = some false)
    (ko_1_3 : PySem.W.kitOne K (.ref C1) (.ref C3) = some false)
    (ko_1_4 : PySem.W.kitOne K (.ref C1) (.ref C4) = some false)
    (ko_1_5 : PySem.W.kitOne K (.ref C1) (.ref C5) = some false)
    (ko_1_6 : PySem.W.kitOne K (.ref C1) (.ref C6) = some false)
    (ko_1_7 : PySem.W.kitOne K (.ref C1) (.ref C7) = some false)
    (q_1 : PySem.W.excIn K C1 [.type "ValueError", .type "Exception", .type "BaseException", .type "object"] "ValueError.__new__" = true)
    (kp_1 : PySem.W.keepIn K (.ref C1) = true)
    (s_2 : PySem.W.subIn K (.ref C2) (.type "BaseException") = some true)
    (t_2 : PySem.W.typeIn K (.ref C2) = some (.type "type"))
    (u_2 : PySem.W.subIn K (.ref C2) (.ref C0) = some true)
    (ga_2 : PySem.W.findIn K (.ref C2) "__getattribute__" = some (some (.builtin "BaseException.__getattribute__")))
    (gg_2 : PySem.W.findIn K (.ref C2) "__getattr__" = some none)
    (hd_2 : PySem.W.hasDictIn K C2 = true)
    (ha_2 : PySem.W.findIn K (.ref C2) "__class__" = some (some (.builtin "object.__class__")))
    (mo_2 : PySem.W.mroIn K C2 (.type "object") = some true)
    (kv_2 : PySem.W.kitOne K (.ref C2) (.type "ValueError") = some true)
    (ko_2_1 : PySem.W.kitOne K (.ref C2) (.ref C1) = some false)
    (ko_2_2 : PySem.W.kitOne K (.ref C2) (.ref C2) = some true)
    (ko_2_3 : PySem.W.kitOne K (.ref C2) (.ref C3) = some false)
    (ko_2_4 : PySem.W.kitOne K (.ref C2) (.ref C4) = some false)
    (ko_2_5 : PySem.W.kitOne K (.ref C2) (.ref C5) = some false)
    (ko_2_6 : PySem.W.kitOne K (.ref C2) (.ref C6) = some false)
    (ko_2_7 : PySem.W.kitOne K (.ref C2) (.ref C7) = some false)
    (q_2 : PySem.W.excIn K C2 [.type "ValueError", .type "Exception", .type "BaseException", .type "object"] "ValueError.__new__" = true)
    (kp_2 : PySem.W.keepIn K (.ref C2) = true)
    (s_3 : PySem.W.subIn K (.ref C3) (.type "BaseException") = some true)
    (t_3 : PySem.W.typeIn K (.ref C3) = some (.type "type"))
    (u_3 : PySem.W.subIn K (.ref C3) (.ref C0) = some true)
    (ga_3 : PySem.W.findIn K (.ref C3) "__getattribute__" = some (some (.builtin "BaseException.__getattribute__")))
    (gg_3 : PySem.W.findIn K (.ref C3) "__getattr__" = some none)
    (hd_3 : PySem.W.hasDictIn K C3 = true)
    (ha_3 : PySem.W.findIn K (.ref C3) "__class__" = some (some (.builtin "object.__class__")))
    (mo_3 : PySem.W.mroIn K C3 (.type "object") = some true)
    (kv_3 : PySem.W.kitOne K (.ref C3) (.type "ValueError") = some true)
    (ko_3_1 : PySem.W.kitOne K (.ref C3) (.ref C1) = some false)
    (ko_3_2 : PySem.W.kitOne K (.ref C3) (.ref C2) = some false)
    (ko_3_3 : PySem.W.kitOne K (.ref C3) (.ref C3) = some true)
    (ko_3_4 : PySem.W.kitOne K (.ref C3) (.ref C4) = some false)
    (ko_3_5 : PySem.W.kitOne K (.ref C3) (.ref C5) = some false)
    (ko_3_6 : PySem.W.kitOne K (.ref C3) (.ref C6) = some false)
    (ko_3_7 : PySem.W.kitOne K (.ref C3) (.ref C7) = some false)
    (q_3 : PySem.W.excIn K C3 [.type "ValueError", .type "Exception", .type "BaseException", .type "object"] "ValueError.__new__" = true)
    (kp_3 : PySem.W.keepIn K (.ref C3) = true)
    (s_4 : PySem.W.subIn K (.ref C4) (.type "BaseException") = some true)
    (t_4 : PySem.W.typeIn K (.ref C4) = some (.type "type"))
    (u_4 : PySem.W.subIn K (.ref C4) (.ref C0) = some true)
    (ga_4 : PySem.W.findIn K (.ref C4) "__getattribute__" = some (some (.builtin "BaseException.__getattribute__")))
    (gg_4 : PySem.W.findIn K (.ref C4) "__getattr__" = some none)
    (hd_4 : PySem.W.hasDictIn K C4 = true)
    (ha_4 : PySem.W.findIn K (.ref C4) "__class__" = some (some (.builtin "object.__class__")))
    (mo_4 : PySem.W.mroIn K C4 (.type "object") = some true)
    (kv_4 : PySem.W.kitOne K (.ref C4) (.type "ValueError") = some true)
    (ko_4_1 : PySem.W.kitOne K (.ref C4) (.ref C1) = some false)
    (ko_4_2 : PySem.W.kitOne K (.ref C4) (.ref C2) = some false)
    (ko_4_3 : PySem.W.kitOne K (.ref C4) (.ref C3) = some false)
    (ko_4_4 : PySem.W.kitOne K (.ref C4) (.ref C4) = some true)
    (ko_4_5 : PySem.W.kitOne K (.ref C4) (.ref C5) = some false)
    (ko_4_6 : PySem.W.kitOne K (.ref C4) (.ref C6) = some false)
    (ko_4_7 : PySem.W.kitOne K (.ref C4) (.ref C7) = some false)
    (s_5 : PySem.W.subIn K (.ref C5) (.type "BaseException") = some true)
    (t_5 : PySem.W.typeIn K (.ref C5) = some (.type "type"))
    (u_5 : PySem.W.subIn K (.ref C5) (.ref C0) = some true)
    (ga_5 : PySem.W.findIn K (.ref C5) "__getattribute__" = some (some (.builtin "BaseException.__getattribute__")))
    (gg_5 : PySem.W.findIn K (.ref C5) "__getattr__" = some none)
    (hd_5 : PySem.W.hasDictIn K C5 = true)
    (ha_5 : PySem.W.findIn K (.ref C5) "__class__" = some (some (.builtin "object.__class__")))
    (mo_5 : PySem.W.mroIn K C5 (.type "object") = some true)
    (kv_5 : PySem.W.kitOne K (.ref C5) (.type "ValueError") = some true)
    (ko_5_1 : PySem.W.kitOne K (.ref C5) (.ref C1) = some false)
    (ko_5_2 : PySem.W.kitOne K (.ref C5) (.ref C2) = some false)
    (ko_5_3 : PySem.W.kitOne K (.ref C5) (.ref C3) = some false)
    (ko_5_4 : PySem.W.kitOne K (.ref C5) (.ref C4) = some false)
    (ko_5_5 : PySem.W.kitOne K (.ref C5) (.ref C5) = some true)
    (ko_5_6 : PySem.W.kitOne K (.ref C5) (.ref C6) = some false)
    (ko_5_7 : PySem.W.kitOne K (.ref C5) (.ref C7) = some false)
    (s_6 : PySem.W.subIn K (.ref C6) (.type "BaseException") = some true)
    (t_6 : PySem.W.typeIn K (.ref C6) = some (.type "type"))
    (u_6 : PySem.W.subIn K (.ref C6) (.ref C0) = some true)
    (ga_6 : PySem.W.findIn K (.ref C6) "__getattribute__" = some (some (.builtin "BaseException.__getattribute__")))
    (gg_6 : PySem.W.findIn K (.ref C6) "__getattr__" = some none)
    (hd_6 : PySem.W.hasDictIn K C6 = true)
    (ha_6 : PySem.W.findIn K (.ref C6) "__class__" = some (some (.builtin "object.__class__")))
    (mo_6 : PySem.W.mroIn K C6 (.type "object") = some true)
    (kv_6 : PySem.W.kitOne K (.ref C6) (.type "ValueError") = some true)
    (ko_6_1 : PySem.W.kitOne K (.ref C6) (.ref C1) = some false)
    (ko_6_2 : PySem.W.kitOne K (.ref C6) (.ref C2) = some false)
    (ko_6_3 : PySem.W.kitOne K (.ref C6) (.ref C3) = some false)
    (ko_6_4 : PySem.W.kitOne K (.ref C6) (.ref C4) = some false)
    (ko_6_5 : PySem.W.kitOne K (.ref C6) (.ref C5) = some false)
    (ko_6_6 : PySem.W.kitOne K (.ref C6) (.ref C6) = some true)
    (ko_6_7 : PySem.W.kitOne K (.ref C6) (.ref C7) = some false)
    (s_7 : PySem.W.subIn K (.ref C7) (.type "BaseException") = some true)
    (t_7 : PySem.W.typeIn K (.ref C7) = some (.type "type"))
    (u_7 : PySem.W.subIn K (.ref C7) (.ref C0) = some true)
    (ga_7 : PySem.W.findIn K (.ref C7) "__getattribute__" = some (some (.builtin "BaseException.__getattribute__")))
    (gg_7 : PySem.W.findIn K (.ref C7) "__getattr__" = some none)
    (hd_7 : PySem.W.hasDictIn K C7 = true)
    (ha_7 : PySem.W.findIn K (.ref C7) "__class__" = some (some (.builtin "object.__class__")))
    (mo_7 : PySem.W.mroIn K C7 (.type "object") = some true)
    (kv_7 : PySem.W.kitOne K (.ref C7) (.type "ValueError") = some true)
    (ko_7_1 : PySem.W.kitOne K (.ref C7) (.ref C1) = some false)
    (ko_7_2 : PySem.W.kitOne K (.ref C7) (.ref C2) = some false)
    (ko_7_3 : PySem.W.kitOne K (.ref C7) (.ref C3) = some false)
    (ko_7_4 : PySem.W.kitOne K (.ref C7) (.ref C4) = some false)
    (ko_7_5 : PySem.W.kitOne K (.ref C7) (.ref C5) = some false)
    (ko_7_6 : PySem.W.kitOne K (.ref C7) (.ref C6) = some false)
    (ko_7_7 : PySem.W.kitOne K (.ref C7) (.ref C7) = some true)
    (hn : PySem.W.specialIn K (.builtin "object.__class__") "__get__" = some (some (.builtin "getset_descriptor.__get__")))
    (ht : PySem.W.takesIn K (.builtin "object.__class__") = some true)
    : ∃ fd : FuncData, (∀ (s : Shared) (v : Value), BindsTo s fd ⟨[v], []⟩ [("_law_script", v)]) ∧ ∀ base : Heap, K.In base → base.Ns mainGlobals mg → FnOk l.prog w K mg base (L2.CX l.prog w) 12 fa fd ["_law_script"] (spLaw K) := by
  have e := hfa.symm.trans (PySem.W.mg_of X Gm a_f31)
  cases e
  let G : G0 := ⟨K, cAs C0 C1 C2 C3 C4 C5 C6 C7 C18, fAs f0 f1 f2 f5 f18 f19 f20 f21 f22 f23 f24 f25 f26 f27 f7 f8 f9 f10 f11 f12 f13 f15 f28 f29 f30 fa⟩
  have hexc : ∀ k, k < 16 → ExcC G.K (G.cA k) := fun k hk => by
    match k, hk with
    | 0, _ => exact ⟨ga_0, gg_0, s_0, hd_0, ha_0, hn, ht, mo_0⟩
    | 1, _ => exact ⟨ga_1, gg_1, s_1, hd_1, ha_1, hn, ht, mo_1⟩
    | 2, _ => exact ⟨ga_2, gg_2, s_2, hd_2, ha_2, hn, ht, mo_2⟩
    | 3, _ => exact ⟨ga_3, gg_3, s_3, hd_3, ha_3, hn, ht, mo_3⟩
    | 4, _ => exact ⟨ga_4, gg_4, s_4, hd_4, ha_4, hn, ht, mo_4⟩
    | 5, _ => exact ⟨ga_5, gg_5, s_5, hd_5, ha_5, hn, ht, mo_5⟩
    | 6, _ => exact ⟨ga_6, gg_6, s_6, hd_6, ha_6, hn, ht, mo_6⟩
    | 7, _ => exact ⟨ga_7, gg_7, s_7, hd_7, ha_7, hn, ht, mo_7⟩
    | 8, _ => exact ⟨ga_0, gg_0, s_0, hd_0, ha_0, hn, ht, mo_0⟩
    | 9, _ => exact ⟨ga_0, gg_0, s_0, hd_0, ha_0, hn, ht, mo_0⟩
    | 10, _ => exact ⟨ga_0, gg_0, s_0, hd_0, ha_0, hn, ht, mo_0⟩
    | 11, _ => exact ⟨ga_0, gg_0, s_0, hd_0, ha_0, hn, ht, mo_0⟩
    | 12, _ => exact ⟨ga_0, gg_0, s_0, hd_0, ha_0, hn, ht, mo_0⟩
    | 13, _ => exact ⟨ga_0, gg_0, s_0, hd_0, ha_0, hn, ht, mo_0⟩
    | 14, _ => exact ⟨ga_0, gg_0, s_0, hd_0, ha_0, hn, ht, mo_0⟩
    | 15, _ => exact ⟨ga_0, gg_0, s_0, hd_0, ha_0, hn, ht, mo_0⟩
    | k + 16, hk => exact absurd hk (by omega)
  have hisV : ∀ k, k < 16 → PySem.W.kitOne G.K (.ref (G.cA k)) (.type "ValueError") = some true := fun k hk => by
    match k, hk with
    | 0, _ => exact kv_0
    | 1, _ => exact kv_1
    | 2, _ => exact kv_2
    | 3, _ => exact kv_3
    | 4, _ => exact kv_4
    | 5, _ => exact kv_5
    | 6, _ => exact kv_6
    | 7, _ => exact kv_7
    | 8, _ => exact kv_0
    | 9, _ => exact kv_0
    | 10, _ => exact kv_0
    | 11, _ => exact kv_0
    | 12, _ => exact kv_0
    | 13, _ => exact kv_0
    | 14, _ => exact kv_0
    | 15, _ => exact kv_0
    | k + 16, hk => exact absurd hk (by omega)
  have hexm : ∀ k, k < 16 → PySem.W.exmOne G.K (.ref (G.cA k)) (.ref (G.cA 0)) = some true := fun k hk => by
    match k, hk with
    | 0, _ => exact PySem.W.exm_ref s_0 hd_0 t_0 u_0
    | 1, _ => exact PySem.W.exm_ref s_0 hd_0 t_0 u_1
    | 2, _ => exact PySem.W.exm_ref s_0 hd_0 t_0 u_2
    | 3, _ => exact PySem.W.exm_ref s_0 hd_0 t_0 u_3
    | 4, _ => exact PySem.W.exm_ref s_0 hd_0 t_0 u_4
    | 5, _ => exact PySem.W.exm_ref s_0 hd_0 t_0 u_5
    | 6, _ => exact PySem.W.exm_ref s_0 hd_0 t_0 u_6
    | 7, _ => exact PySem.W.exm_ref s_0 hd_0 t_0 u_7
    | 8, _ => exact PySem.W.exm_ref s_0 hd_0 t_0 u_0
    | 9, _ => exact PySem.W.exm_ref s_0 hd_0 t_0 u_0
    | 10, _ => exact PySem.W.exm_ref s_0 hd_0 t_0 u_0
    | 11, _ => exact PySem.W.exm_ref s_0 hd_0 t_0 u_0
    | 12, _ => exact PySem.W.exm_ref s_0 hd_0 t_0 u_0
    | 13, _ => exact PySem.W.exm_ref s_0 hd_0 t_0 u_0
    | 14, _ => exact PySem.W.exm_ref s_0 hd_0 t_0 u_0
    | 15, _ => exact PySem.W.exm_ref s_0 hd_0 t_0 u_0
    | k + 16, hk => exact absurd hk (by omega)
  have hisO : ∀ k c, k < 16 → 0 < c ∧ c < 8 → PySem.W.kitOne G.K (.ref (G.cA k)) (.ref (G.cA c)) = some (decide (c = k)) := fun k c hk hc => by
    match k, hk with
    | 0, _ => (match c, hc with | 1, _ => exact ko_0_1 | 2, _ => exact ko_0_2 | 3, _ => exact ko_0_3 | 4, _ => exact ko_0_4 | 5, _ => exact ko_0_5 | 6, _ => exact ko_0_6 | 7, _ => exact ko_0_7 | 0, hc => exact absurd hc.1 (by omega) | c + 8, hc => exact absurd hc.2 (by omega))
    | 1, _ => (match c, hc with | 1, _ => exact ko_1_1 | 2, _ => exact ko_1_2 | 3, _ => exact ko_1_3 | 4, _ => exact ko_1_4 | 5, _ => exact ko_1_5 | 6, _ => exact ko_1_6 | 7, _ => exact ko_1_7 | 0, hc => exact absurd hc.1 (by omega) | c + 8, hc => exact absurd hc.2 (by omega))
    | 2, _ => (match c, hc with | 1, _ => exact ko_2_1 | 2, _ => exact ko_2_2 | 3, _ => exact ko_2_3 | 4, _ => exact ko_2_4 | 5, _ => exact ko_2_5 | 6, _ => exact ko_2_6 | 7, _ => exact ko_2_7 | 0, hc => exact absurd hc.1 (by omega) | c + 8, hc => exact absurd hc.2 (by omega))
    | 3, _ => (match c, hc with | 1, _ => exact ko_3_1 | 2, _ => exact ko_3_2 | 3, _ => exact ko_3_3 | 4, _ => exact ko_3_4 | 5, _ => exact ko_3_5 | 6, _ => exact ko_3_6 | 7, _ => exact ko_3_7 | 0, hc => exact absurd hc.1 (by omega) | c + 8, hc => exact absurd hc.2 (by omega))
    | 4, _ => (match c, hc with | 1, _ => exact ko_4_1 | 2, _ => exact ko_4_2 | 3, _ => exact ko_4_3 | 4, _ => exact ko_4_4 | 5, _ => exact ko_4_5 | 6, _ => exact ko_4_6 | 7, _ => exact ko_4_7 | 0, hc => exact absurd hc.1 (by omega) | c + 8, hc => exact absurd hc.2 (by omega))
    | 5, _ => (match c, hc with | 1, _ => exact ko_5_1 | 2, _ => exact ko_5_2 | 3, _ => exact ko_5_3 | 4, _ => exact ko_5_4 | 5, _ => exact ko_5_5 | 6, _ => exact ko_5_6 | 7, _ => exact ko_5_7 | 0, hc => exact absurd hc.1 (by omega) | c + 8, hc => exact absurd hc.2 (by omega))
    | 6, _ => (match c, hc with | 1, _ => exact ko_6_1 | 2, _ => exact ko_6_2 | 3, _ => exact ko_6_3 | 4, _ => exact ko_6_4 | 5, _ => exact ko_6_5 | 6, _ => exact ko_6_6 | 7, _ => exact ko_6_7 | 0, hc => exact absurd hc.1 (by omega) | c + 8, hc => exact absurd hc.2 (by omega))
    | 7, _ => (match c, hc with | 1, _ => exact ko_7_1 | 2, _ => exact ko_7_2 | 3, _ => exact ko_7_3 | 4, _ => exact ko_7_4 | 5, _ => exact ko_7_5 | 6, _ => exact ko_7_6 | 7, _ => exact ko_7_7 | 0, hc => exact absurd hc.1 (by omega) | c + 8, hc => exact absurd hc.2 (by omega))
    | 8, _ => (match c, hc with | 1, _ => exact ko_0_1 | 2, _ => exact ko_0_2 | 3, _ => exact ko_0_3 | 4, _ => exact ko_0_4 | 5, _ => exact ko_0_5 | 6, _ => exact ko_0_6 | 7, _ => exact ko_0_7 | 0, hc => exact absurd hc.1 (by omega) | c + 8, hc => exact absurd hc.2 (by omega))
    | 9, _ => (match c, hc with | 1, _ => exact ko_0_1 | 2, _ => exact ko_0_2 | 3, _ => exact ko_0_3 | 4, _ => exact ko_0_4 | 5, _ => exact ko_0_5 | 6, _ => exact ko_0_6 | 7, _ => exact ko_0_7 | 0, hc => exact absurd hc.1 (by omega) | c + 8, hc => exact absurd hc.2 (by omega))
    | 10, _ => (match c, hc with | 1, _ => exact ko_0_1 | 2, _ => exact ko_0_2 | 3, _ => exact ko_0_3 | 4, _ => exact ko_0_4 | 5, _ => exact ko_0_5 | 6, _ => exact ko_0_6 | 7, _ => exact ko_0_7 | 0, hc => exact absurd hc.1 (by omega) | c + 8, hc => exact absurd hc.2 (by omega))
    | 11, _ => (match c, hc with | 1, _ => exact ko_0_1 | 2, _ => exact ko_0_2 | 3, _ => exact ko_0_3 | 4, _ => exact ko_0_4 | 5, _ => exact ko_0_5 | 6, _ => exact ko_0_6 | 7, _ => exact ko_0_7 | 0, hc => exact absurd hc.1 (by omega) | c + 8, hc => exact absurd hc.2 (by omega))
    | 12, _ => (match c, hc with | 1, _ => exact ko_0_1 | 2, _ => exact ko_0_2 | 3, _ => exact ko_0_3 | 4, _ => exact ko_0_4 | 5, _ => exact ko_0_5 | 6, _ => exact ko_0_6 | 7, _ => exact ko_0_7 | 0, hc => exact absurd hc.1 (by omega) | c + 8, hc => exact absurd hc.2 (by omega))
    | 13, _ => (match c, hc with | 1, _ => exact ko_0_1 | 2, _ => exact ko_0_2 | 3, _ => exact ko_0_3 | 4, _ => exact ko_0_4 | 5, _ => exact ko_0_5 | 6, _ => exact ko_0_6 | 7, _ => exact ko_0_7 | 0, hc => exact absurd hc.1 (by omega) | c + 8, hc => exact absurd hc.2 (by omega))
    | 14, _ => (match c, hc with | 1, _ => exact ko_0_1 | 2, _ => exact ko_0_2 | 3, _ => exact ko_0_3 | 4, _ => exact ko_0_4 | 5, _ => exact ko_0_5 | 6, _ => exact ko_0_6 | 7, _ => exact ko_0_7 | 0, hc => exact absurd hc.1 (by omega) | c + 8, hc => exact absurd hc.2 (by omega))
    | 15, _ => (match c, hc with | 1, _ => exact ko_0_1 | 2, _ => exact ko_0_2 | 3, _ => exact ko_0_3 | 4, _ => exact ko_0_4 | 5, _ => exact ko_0_5 | 6, _ => exact ko_0_6 | 7, _ => exact ko_0_7 | 0, hc => exact absurd hc.1 (by omega) | c + 8, hc => exact absurd hc.2 (by omega))
    | k + 16, hk => exact absurd hk (by omega)
  have T : Fx G mg := {
    b_isinstance := PySem.W.mg_none_of X Gm z_isinstance
    b_ValueError := PySem.W.mg_none_of X Gm z_ValueError
    exc := hexc
    isO := hisO
    isV := hisV
    exm := hexm
    g_CELL := ⟨_, PySem.W.mg_of X Gm g_CELL⟩
    g_GAP := ⟨_, PySem.W.mg_of X Gm g_GAP⟩
    g_MOST_KINDS := ⟨_, PySem.W.mg_of X Gm g_MOST_KINDS⟩
    g_MOST_NAME := ⟨_, PySem.W.mg_of X Gm g_MOST_NAME⟩
    g_MOST_PILE := ⟨_, PySem.W.mg_of X Gm g_MOST_PILE⟩
    g_MOST_SIDE := ⟨_, PySem.W.mg_of X Gm g_MOST_SIDE⟩
    g_MOST_WEIGHT := ⟨_, PySem.W.mg_of X Gm g_MOST_WEIGHT⟩
    g_SMALL := ⟨_, PySem.W.mg_of X Gm g_SMALL⟩
    b_all := PySem.W.mg_none_of X Gm z_all
    b_any := PySem.W.mg_none_of X Gm z_any
    b_int := PySem.W.mg_none_of X Gm z_int
    b_len := PySem.W.mg_none_of X Gm z_len
    b_max := PySem.W.mg_none_of X Gm z_max
    b_min := PySem.W.mg_none_of X Gm z_min
    b_range := PySem.W.mg_none_of X Gm z_range
    b_set := PySem.W.mg_none_of X Gm z_set
    b_sorted := PySem.W.mg_none_of X Gm z_sorted
    b_tuple := PySem.W.mg_none_of X Gm z_tuple
    c_BagError := PySem.W.mg_of X Gm a_C0
    c_BadShape := PySem.W.mg_of X Gm a_C1
    c_BadKind := PySem.W.mg_of X Gm a_C2
    c_BadNumber := PySem.W.mg_of X Gm a_C3
    c_BadPlace := PySem.W.mg_of X Gm a_C4
    c_BadPile := PySem.W.mg_of X Gm a_C5
    c_BadSlot := PySem.W.mg_of X Gm a_C6
    c_BadText := PySem.W.mg_of X Gm a_C7
    c_Book := PySem.W.mg_of X Gm a_C18
    x_BadKind := ⟨q_2, kp_2, s_2, t_2⟩
    x_BadNumber := ⟨q_3, kp_3, s_3, t_3⟩
    x_BadShape := ⟨q_1, kp_1, s_1, t_1⟩
    k_Book := ⟨pg_18, hd_18, po_18, sa_18⟩
    n_Book_rows := na_18_rows
    h_Book_add := ⟨a_f20, i_f20, k_f20⟩
    h_Book_has_tag := ⟨a_f27, i_f27, k_f27⟩
    h_Book_most := ⟨a_f24, i_f24, k_f24⟩
    h_Book_names := ⟨a_f22, i_f22, k_f22⟩
    h_Book_need := ⟨a_f21, i_f21, k_f21⟩
    h_Book_shape := ⟨a_f23, i_f23, k_f23⟩
    h_Book_turns := ⟨a_f25, i_f25, k_f25⟩
    h_Book_weight := ⟨a_f26, i_f26, k_f26⟩
    m_Book := ⟨mk_18, a_f19, i_f19, kc_18⟩
    f_look_shape := PySem.W.mg_of X Gm a_f0
    f_turn_once := PySem.W.mg_of X Gm a_f1
    f_turned := PySem.W.mg_of X Gm a_f2
    f_turns_of := PySem.W.mg_of X Gm a_f5
    f_look_name := PySem.W.mg_of X Gm a_f18
    f__law_cell := PySem.W.mg_of X Gm a_f7
    f__law_mix := PySem.W.mg_of X Gm a_f8
    f__law_draw := PySem.W.mg_of X Gm a_f9
    f__law_pick := PySem.W.mg_of X Gm a_f10
    f__law_refusal := PySem.W.mg_of X Gm a_f11
    f__law_shape := PySem.W.mg_of X Gm a_f12
    f__law_cells := PySem.W.mg_of X Gm a_f13
    f__law_turns := PySem.W.mg_of X Gm a_f15
    f__law_told := PySem.W.mg_of X Gm a_f28
    f__law_asked := PySem.W.mg_of X Gm a_f29
    f__law_due := PySem.W.mg_of X Gm a_f30
    f_law := PySem.W.mg_of X Gm a_f31
  }
  have S : FxF G := {
    F_look_shape := ⟨_, fun_mk (st := st_look_shape) l_f0 c_f0 k_f0, (fun_mk (st := st_look_shape) l_f0 c_f0 k_f0).binds (ps := ["shape"]) fun _ _ _ _ _ _ us hl => match us, hl with | [_], _ => rfl⟩
    F_turn_once := ⟨_, fun_mk (st := st_turn_once) l_f1 c_f1 k_f1, (fun_mk (st := st_turn_once) l_f1 c_f1 k_f1).binds (ps := ["shape"]) fun _ _ _ _ _ _ us hl => match us, hl with | [_], _ => rfl⟩
    F_turned := ⟨_, fun_mk (st := st_turned) l_f2 c_f2 k_f2, (fun_mk (st := st_turned) l_f2 c_f2 k_f2).binds (ps := ["shape", "many"]) fun _ _ _ _ _ _ us hl => match us, hl with | [_, _], _ => rfl⟩
    F_turns_of := ⟨_, fun_mk (st := st_turns_of) l_f5 c_f5 k_f5, (fun_mk (st := st_turns_of) l_f5 c_f5 k_f5).binds (ps := ["shape"]) fun _ _ _ _ _ _ us hl => match us, hl with | [_], _ => rfl⟩
    F_look_name := ⟨_, fun_mk (st := st_look_name) l_f18 c_f18 k_f18, (fun_mk (st := st_look_name) l_f18 c_f18 k_f18).binds (ps := ["name"]) fun _ _ _ _ _ _ us hl => match us, hl with | [_], _ => rfl⟩
    F_Book___init__ := ⟨_, fun_mk (st := st_Book___init__) l_f19 c_f19 k_f19, (fun_mk (st := st_Book___init__) l_f19 c_f19 k_f19).binds (ps := ["self"]) fun _ _ _ _ _ _ us hl => match us, hl with | [_], _ => rfl⟩
    F_Book_add := ⟨_, fun_mk (st := st_Book_add) l_f20 c_f20 k_f20, (fun_mk (st := st_Book_add) l_f20 c_f20 k_f20).binds (ps := ["self", "name", "shape", "most", "may_turn", "weight", "tags"]) fun _ _ _ _ _ _ us hl => match us, hl with | [_, _, _, _, _, _, _], _ => rfl⟩
    F_Book_need := ⟨_, fun_mk (st := st_Book_need) l_f21 c_f21 k_f21, (fun_mk (st := st_Book_need) l_f21 c_f21 k_f21).binds (ps := ["self", "name"]) fun _ _ _ _ _ _ us hl => match us, hl with | [_, _], _ => rfl⟩
    F_Book_names := ⟨_, fun_mk (st := st_Book_names) l_f22 c_f22 k_f22, (fun_mk (st := st_Book_names) l_f22 c_f22 k_f22).binds (ps := ["self"]) fun _ _ _ _ _ _ us hl => match us, hl with | [_], _ => rfl⟩
    F_Book_shape := ⟨_, fun_mk (st := st_Book_shape) l_f23 c_f23 k_f23, (fun_mk (st := st_Book_shape) l_f23 c_f23 k_f23).binds (ps := ["self", "name"]) fun _ _ _ _ _ _ us hl => match us, hl with | [_, _], _ => rfl⟩
    F_Book_most := ⟨_, fun_mk (st := st_Book_most) l_f24 c_f24 k_f24, (fun_mk (st := st_Book_most) l_f24 c_f24 k_f24).binds (ps := ["self", "name"]) fun _ _ _ _ _ _ us hl => match us, hl with | [_, _], _ => rfl⟩
    F_Book_turns := ⟨_, fun_mk (st := st_Book_turns) l_f25 c_f25 k_f25, (fun_mk (st := st_Book_turns) l_f25 c_f25 k_f25).binds (ps := ["self", "name"]) fun _ _ _ _ _ _ us hl => match us, hl with | [_, _], _ => rfl⟩
    F_Book_weight := ⟨_, fun_mk (st := st_Book_weight) l_f26 c_f26 k_f26, (fun_mk (st := st_Book_weight) l_f26 c_f26 k_f26).binds (ps := ["self", "name"]) fun _ _ _ _ _ _ us hl => match us, hl with | [_, _], _ => rfl⟩
    F_Book_has_tag := ⟨_, fun_mk (st := st_Book_has_tag) l_f27 c_f27 k_f27, (fun_mk (st := st_Book_has_tag) l_f27 c_f27 k_f27).binds (ps := ["self", "name", "tag"]) fun _ _ _ _ _ _ us hl => match us, hl with | [_, _, _], _ => rfl⟩
    F__law_cell := ⟨_, fun_mk (st := st__law_cell) l_f7 c_f7 k_f7, (fun_mk (st := st__law_cell) l_f7 c_f7 k_f7).binds (ps := ["_law_script", "_law_k"]) fun _ _ _ _ _ _ us hl => match us, hl with | [_, _], _ => rfl⟩
    F__law_mix := ⟨_, fun_mk (st := st__law_mix) l_f8 c_f8 k_f8, (fun_mk (st := st__law_mix) l_f8 c_f8 k_f8).binds (ps := ["_law_script", "_law_k"]) fun _ _ _ _ _ _ us hl => match us, hl with | [_, _], _ => rfl⟩
    F__law_draw := ⟨_, fun_mk (st := st__law_draw) l_f9 c_f9 k_f9, (fun_mk (st := st__law_draw) l_f9 c_f9 k_f9).binds (ps := ["_law_script", "_law_town", "_law_many"]) fun _ _ _ _ _ _ us hl => match us, hl with | [_, _, _], _ => rfl⟩
    F__law_pick := ⟨_, fun_mk (st := st__law_pick) l_f10 c_f10 k_f10, (fun_mk (st := st__law_pick) l_f10 c_f10 k_f10).binds (ps := ["_law_script", "_law_town", "_law_some"]) fun _ _ _ _ _ _ us hl => match us, hl with | [_, _, _], _ => rfl⟩
    F__law_refusal := ⟨_, fun_mk (st := st__law_refusal) l_f11 c_f11 k_f11, (fun_mk (st := st__law_refusal) l_f11 c_f11 k_f11).binds (ps := ["_law_held"]) fun _ _ _ _ _ _ us hl => match us, hl with | [_], _ => rfl⟩
    F__law_shape := ⟨_, fun_mk (st := st__law_shape) l_f12 c_f12 k_f12, (fun_mk (st := st__law_shape) l_f12 c_f12 k_f12).binds (ps := ["_law_script", "_law_town", "_law_most"]) fun _ _ _ _ _ _ us hl => match us, hl with | [_, _, _], _ => rfl⟩
    F__law_cells := ⟨_, fun_mk (st := st__law_cells) l_f13 c_f13 k_f13, (fun_mk (st := st__law_cells) l_f13 c_f13 k_f13).binds (ps := ["_law_shape_here", "_law_turn"]) fun _ _ _ _ _ _ us hl => match us, hl with | [_, _], _ => rfl⟩
    F__law_turns := ⟨_, fun_mk (st := st__law_turns) l_f15 c_f15 k_f15, (fun_mk (st := st__law_turns) l_f15 c_f15 k_f15).binds (ps := ["_law_shape_here"]) fun _ _ _ _ _ _ us hl => match us, hl with | [_], _ => rfl⟩
    F__law_told := ⟨_, fun_mk (st := st__law_told) l_f28 c_f28 k_f28, (fun_mk (st := st__law_told) l_f28 c_f28 k_f28).binds (ps := ["_law_book", "_law_some"]) fun _ _ _ _ _ _ us hl => match us, hl with | [_, _], _ => rfl⟩
    F__law_asked := ⟨_, fun_mk (st := st__law_asked) l_f29 c_f29 k_f29, (fun_mk (st := st__law_asked) l_f29 c_f29 k_f29).binds (ps := ["_law_book", "_law_way", "_law_name"]) fun _ _ _ _ _ _ us hl => match us, hl with | [_, _, _], _ => rfl⟩
    F__law_due := ⟨_, fun_mk (st := st__law_due) l_f30 c_f30 k_f30, (fun_mk (st := st__law_due) l_f30 c_f30 k_f30).binds (ps := ["_law_rows", "_law_some"]) fun _ _ _ _ _ _ us hl => match us, hl with | [_, _], _ => rfl⟩
    F_law := ⟨_, fun_mk (st := st_law) l_f31 c_f31 k_f31, (fun_mk (st := st_law) l_f31 c_f31 k_f31).binds (ps := ["_law_script"]) fun _ _ _ _ _ _ us hl => match us, hl with | [_], _ => rfl⟩
  }
  refine ⟨PySem.W.fnOf "law" "law" (defArgs st_law) (defBody st_law) (defScope st_law) .none kV31 dc31 pm31 an31 cd31 ct31, fun s v => .of_eq rfl, fun base _ _ => ?_⟩
  have h := fn_law (n := 5) (P := l.prog) (w := w) (base := base) T S (fun_mk (st := st_law) l_f31 c_f31 k_f31)
  exact FnOk.imp h fun vs H Q E q => law_sp hpure q
end Law

open PySem PySem.W PyProof.Rows
set_option maxRecDepth 100000 in
set_option maxHeartbeats 0 in
theorem PySem.Challenge.cw_cellbag_k10_whole_books_holds : PySem.Challenge.rw_cellbag_k10_whole_books.Holds := by
  w_on; o_law; k_head; (case hw => w_witness2)
  k_fill
  refine MSR.walk_law (l := PySem.Challenge.rw_cellbag_k10_whole_books) (k := 12) rfl rfl ⟨rfl, by decide, by decide⟩ (fun w h Y => PySem.W.kIn_of Y) ?F
  case F =>
    intro w mg fa h KX Gm hmg
    refine' Law.all_mk Law.pure_k10 KX Gm hmg ?a_C0 ?a_C1 ?a_C2 ?a_C3 ?a_C4 ?a_C5 ?a_C6 ?a_C7 ?a_C18 ?a_f0 ?l_f0 ?c_f0 ?k_f0 ?a_f1 ?l_f1 ?c_f1 ?k_f1 ?a_f2 ?l_f2 ?c_f2 ?k_f2 ?a_f5 ?l_f5 ?c_f5 ?k_f5 ?a_f18 ?l_f18 ?c_f18 ?k_f18 ?a_f19 ?i_f19 ?l_f19 ?c_f19 ?k_f19 ?a_f20 ?i_f20 ?l_f20 ?c_f20 ?k_f20 ?a_f21 ?i_f21 ?l_f21 ?c_f21 ?k_f21 ?a_f22 ?i_f22 ?l_f22 ?c_f22 ?k_f22 ?a_f23 ?i_f23 ?l_f23 ?c_f23 ?k_f23 ?a_f24 ?i_f24 ?l_f24 ?c_f24 ?k_f24 ?a_f25 ?i_f25 ?l_f25 ?c_f25 ?k_f25 ?a_f26 ?i_f26 ?l_f26 ?c_f26 ?k_f26 ?a_f27 ?i_f27 ?l_f27 ?c_f27 ?k_f27 ?a_f7 ?l_f7 ?c_f7 ?k_f7 ?a_f8 ?l_f8 ?c_f8 ?k_f8 ?a_f9 ?l_f9 ?c_f9 ?k_f9 ?a_f10 ?l_f10 ?c_f10 ?k_f10 ?a_f11 ?l_f11 ?c_f11 ?k_f11 ?a_f12 ?l_f12 ?c_f12 ?k_f12 ?a_f13 ?l_f13 ?c_f13 ?k_f13 ?a_f15 ?l_f15 ?c_f15 ?k_f15 ?a_f28 ?l_f28 ?c_f28 ?k_f28 ?a_f29 ?l_f29 ?c_f29 ?k_f29 ?a_f30 ?l_f30 ?c_f30 ?k_f30 ?a_f31 ?l_f31 ?c_f31 ?k_f31 ?pg_18 ?hd_18 ?po_18 ?sa_18 ?na_18_rows ?mk_18 ?kc_18 ?g_CELL ?g_GAP ?g_MOST_KINDS ?g_MOST_NAME ?g_MOST_PILE ?g_MOST_SIDE ?g_MOST_WEIGHT ?g_SMALL ?z_ValueError ?z_all ?z_any ?z_int ?z_isinstance ?z_len ?z_max ?z_min ?z_range ?z_set ?z_sorted ?z_tuple ?s_0 ?t_0 ?u_0 ?ga_0 ?gg_0 ?hd_0 ?ha_0 ?mo_0 ?kv_0 ?ko_0_1 ?ko_0_2 ?ko_0_3 ?ko_0_4 ?ko_0_5 ?ko_0_6 ?ko_0_7 ?s_1 ?t_1 ?u_1 ?ga_1 ?gg_1 ?hd_1 ?ha_1 ?mo_1 ?kv_1 ?ko_1_1 ?ko_1_2 ?ko_1_3 ?ko_1_4 ?ko_1_5 ?ko_1_6 ?ko_1_7 ?q_1 ?kp_1 ?s_2 ?t_2 ?u_2 ?ga_2 ?gg_2 ?hd_2 ?ha_2 ?mo_2 ?kv_2 ?ko_2_1 ?ko_2_2 ?ko_2_3 ?ko_2_4 ?ko_2_5 ?ko_2_6 ?ko_2_7 ?q_2 ?kp_2 ?s_3 ?t_3 ?u_3 ?ga_3 ?gg_3 ?hd_3 ?ha_3 ?mo_3 ?kv_3 ?ko_3_1 ?ko_3_2 ?ko_3_3 ?ko_3_4 ?ko_3_5 ?ko_3_6 ?ko_3_7 ?q_3 ?kp_3 ?s_4 ?t_4 ?u_4 ?ga_4 ?gg_4 ?hd_4 ?ha_4 ?mo_4 ?kv_4 ?ko_4_1 ?ko_4_2 ?ko_4_3 ?ko_4_4 ?ko_4_5 ?ko_4_6 ?ko_4_7 ?s_5 ?t_5 ?u_5 ?ga_5 ?gg_5 ?hd_5 ?ha_5 ?mo_5 ?kv_5 ?ko_5_1 ?ko_5_2 ?ko_5_3 ?ko_5_4 ?ko_5_5 ?ko_5_6 ?ko_5_7 ?s_6 ?t_6 ?u_6 ?ga_6 ?gg_6 ?hd_6 ?ha_6 ?mo_6 ?kv_6 ?ko_6_1 ?ko_6_2 ?ko_6_3 ?ko_6_4 ?ko_6_5 ?ko_6_6 ?ko_6_7 ?s_7 ?t_7 ?u_7 ?ga_7 ?gg_7 ?hd_7 ?ha_7 ?mo_7 ?kv_7 ?ko_7_1 ?ko_7_2 ?ko_7_3 ?ko_7_4 ?ko_7_5 ?ko_7_6 ?ko_7_7 ?hn ?ht
    (case a_C0 => k_is)
    (case a_C1 => k_is)
    (case a_C2 => k_is)
    (case a_C3 => k_is)
    (case a_C4 => k_is)
    (case a_C5 => k_is)
    (case a_C6 => k_is)
    (case a_C7 => k_is)
    (case a_C18 => k_is)
    (case a_f0 => k_is)
    (case l_f0 => k_is)
    (case c_f0 => k_is)
    (case k_f0 => k_is)
    (case a_f1 => k_is)
    (case l_f1 => k_is)
    (case c_f1 => k_is)
    (case k_f1 => k_is)
    (case a_f2 => k_is)
    (case l_f2 => k_is)
    (case c_f2 => k_is)
    (case k_f2 => k_is)
    (case a_f5 => k_is)
    (case l_f5 => k_is)
    (case c_f5 => k_is)
    (case k_f5 => k_is)
    (case a_f18 => k_is)
    (case l_f18 => k_is)
    (case c_f18 => k_is)
    (case k_f18 => k_is)
    (case a_f19 => k_is)
    (case i_f19 => k_is)
    (case l_f19 => k_is)
    (case c_f19 => k_is)
    (case k_f19 => k_is)
    (case a_f20 => k_is)
    (case i_f20 => k_is)
    (case l_f20 => k_is)
    (case c_f20 => k_is)
    (case k_f20 => k_is)
    (case a_f21 => k_is)
    (case i_f21 => k_is)
    (case l_f21 => k_is)
    (case c_f21 => k_is)
    (case k_f21 => k_is)
    (case a_f22 => k_is)
    (case i_f22 => k_is)
    (case l_f22 => k_is)
    (case c_f22 => k_is)
    (case k_f22 => k_is)
    (case a_f23 => k_is)
    (case i_f23 => k_is)
    (case l_f23 => k_is)
    (case c_f23 => k_is)
    (case k_f23 => k_is)
    (case a_f24 => k_is)
    (case i_f24 => k_is)
    (case l_f24 => k_is)
    (case c_f24 => k_is)
    (case k_f24 => k_is)
    (case a_f25 => k_is)
    (case i_f25 => k_is)
    (case l_f25 => k_is)
    (case c_f25 => k_is)
    (case k_f25 => k_is)
    (case a_f26 => k_is)
    (case i_f26 => k_is)
    (case l_f26 => k_is)
    (case c_f26 => k_is)
    (case k_f26 => k_is)
    (case a_f27 => k_is)
    (case i_f27 => k_is)
    (case l_f27 => k_is)
    (case c_f27 => k_is)
    (case k_f27 => k_is)
    (case a_f7 => k_is)
    (case l_f7 => k_is)
    (case c_f7 => k_is)
    (case k_f7 => k_is)
    (case a_f8 => k_is)
    (case l_f8 => k_is)
    (case c_f8 => k_is)
    (case k_f8 => k_is)
    (case a_f9 => k_is)
    (case l_f9 => k_is)
    (case c_f9 => k_is)
    (case k_f9 => k_is)
    (case a_f10 => k_is)
    (case l_f10 => k_is)
    (case c_f10 => k_is)
    (case k_f10 => k_is)
    (case a_f11 => k_is)
    (case l_f11 => k_is)
    (case c_f11 => k_is)
    (case k_f11 => k_is)
    (case a_f12 => k_is)
    (case l_f12 => k_is)
    (case c_f12 => k_is)
    (case k_f12 => k_is)
    (case a_f13 => k_is)
    (case l_f13 => k_is)
    (case c_f13 => k_is)
    (case k_f13 => k_is)
    (case a_f15 => k_is)
    (case l_f15 => k_is)
    (case c_f15 => k_is)
    (case k_f15 => k_is)
    (case a_f28 => k_is)
    (case l_f28 => k_is)
    (case c_f28 => k_is)
    (case k_f28 => k_is)
    (case a_f29 => k_is)
    (case l_f29 => k_is)
    (case c_f29 => k_is)
    (case k_f29 => k_is)
    (case a_f30 => k_is)
    (case l_f30 => k_is)
    (case c_f30 => k_is)
    (case k_f30 => k_is)
    (case a_f31 => k_is)
    (case l_f31 => k_is)
    (case c_f31 => k_is)
    (case k_f31 => k_is)
    (case pg_18 => k_is)
    (case hd_18 => k_is)
    (case po_18 => k_is)
    (case sa_18 => k_is)
    (case na_18_rows => k_is)
    (case mk_18 => k_is)
    (case kc_18 => k_is)
    (case g_CELL => k_is)
    (case g_GAP => k_is)
    (case g_MOST_KINDS => k_is)
    (case g_MOST_NAME => k_is)
    (case g_MOST_PILE => k_is)
    (case g_MOST_SIDE => k_is)
    (case g_MOST_WEIGHT => k_is)
    (case g_SMALL => k_is)
    (case z_ValueError => k_is)
    (case z_all => k_is)
    (case z_any => k_is)
    (case z_int => k_is)
    (case z_isinstance => k_is)
    (case z_len => k_is)
    (case z_max => k_is)
    (case z_min => k_is)
    (case z_range => k_is)
    (case z_set => k_is)
    (case z_sorted => k_is)
    (case z_tuple => k_is)
    (case s_0 => k_is)
    (case t_0 => k_is)
    (case u_0 => k_is)
    (case ga_0 => k_is)
    (case gg_0 => k_is)
    (case hd_0 => k_is)
    (case ha_0 => k_is)
    (case mo_0 => k_is)
    (case kv_0 => kit_is)
    (case ko_0_1 => kit_is)
    (case ko_0_2 => kit_is)
    (case ko_0_3 => kit_is)
    (case ko_0_4 => kit_is)
    (case ko_0_5 => kit_is)
    (case ko_0_6 => kit_is)
    (case ko_0_7 => kit_is)
    (case s_1 => k_is)
    (case t_1 => k_is)
    (case u_1 => k_is)
    (case ga_1 => k_is)
    (case gg_1 => k_is)
    (case hd_1 => k_is)
    (case ha_1 => k_is)
    (case mo_1 => k_is)
    (case kv_1 => kit_is)
    (case ko_1_1 => kit_is)
    (case ko_1_2 => kit_is)
    (case ko_1_3 => kit_is)
    (case ko_1_4 => kit_is)
    (case ko_1_5 => kit_is)
    (case ko_1_6 => kit_is)
    (case ko_1_7 => kit_is)
    (case q_1 => k_exc)
    (case kp_1 => k_is)
    (case s_2 => k_is)
    (case t_2 => k_is)
    (case u_2 => k_is)
    (case ga_2 => k_is)
    (case gg_2 => k_is)
    (case hd_2 => k_is)
    (case ha_2 => k_is)
    (case mo_2 => k_is)
    (case kv_2 => kit_is)
    (case ko_2_1 => kit_is)
    (case ko_2_2 => kit_is)
    (case ko_2_3 => kit_is)
    (case ko_2_4 => kit_is)
    (case ko_2_5 => kit_is)
    (case ko_2_6 => kit_is)
    (case ko_2_7 => kit_is)
    (case q_2 => k_exc)
    (case kp_2 => k_is)
    (case s_3 => k_is)
    (case t_3 => k_is)
    (case u_3 => k_is)
    (case ga_3 => k_is)
    (case gg_3 => k_is)
    (case hd_3 => k_is)
    (case ha_3 => k_is)
    (case mo_3 => k_is)
    (case kv_3 => kit_is)
    (case ko_3_1 => kit_is)
    (case ko_3_2 => kit_is)
    (case ko_3_3 => kit_is)
    (case ko_3_4 => kit_is)
    (case ko_3_5 => kit_is)
    (case ko_3_6 => kit_is)
    (case ko_3_7 => kit_is)
    (case q_3 => k_exc)
    (case kp_3 => k_is)
    (case s_4 => k_is)
    (case t_4 => k_is)
    (case u_4 => k_is)
    (case ga_4 => k_is)
    (case gg_4 => k_is)
    (case hd_4 => k_is)
    (case ha_4 => k_is)
    (case mo_4 => k_is)
    (case kv_4 => kit_is)
    (case ko_4_1 => kit_is)
    (case ko_4_2 => kit_is)
    (case ko_4_3 => kit_is)
    (case ko_4_4 => kit_is)
    (case ko_4_5 => kit_is)
    (case ko_4_6 => kit_is)
    (case ko_4_7 => kit_is)
    (case s_5 => k_is)
    (case t_5 => k_is)
    (case u_5 => k_is)
    (case ga_5 => k_is)
    (case gg_5 => k_is)
    (case hd_5 => k_is)
    (case ha_5 => k_is)
    (case mo_5 => k_is)
    (case kv_5 => kit_is)
    (case ko_5_1 => kit_is)
    (case ko_5_2 => kit_is)
    (case ko_5_3 => kit_is)
    (case ko_5_4 => kit_is)
    (case ko_5_5 => kit_is)
    (case ko_5_6 => kit_is)
    (case ko_5_7 => kit_is)
    (case s_6 => k_is)
    (case t_6 => k_is)
    (case u_6 => k_is)
    (case ga_6 => k_is)
    (case gg_6 => k_is)
    (case hd_6 => k_is)
    (case ha_6 => k_is)
    (case mo_6 => k_is)
    (case kv_6 => kit_is)
    (case ko_6_1 => kit_is)
    (case ko_6_2 => kit_is)
    (case ko_6_3 => kit_is)
    (case ko_6_4 => kit_is)
    (case ko_6_5 => kit_is)
    (case ko_6_6 => kit_is)
    (case ko_6_7 => kit_is)
    (case s_7 => k_is)
    (case t_7 => k_is)
    (case u_7 => k_is)
    (case ga_7 => k_is)
    (case gg_7 => k_is)
    (case hd_7 => k_is)
    (case ha_7 => k_is)
    (case mo_7 => k_is)
    (case kv_7 => kit_is)
    (case ko_7_1 => kit_is)
    (case ko_7_2 => kit_is)
    (case ko_7_3 => kit_is)
    (case ko_7_4 => kit_is)
    (case ko_7_5 => kit_is)
    (case ko_7_6 => kit_is)
    (case ko_7_7 => kit_is)
    (case hn => k_is)
    (case ht => k_is)


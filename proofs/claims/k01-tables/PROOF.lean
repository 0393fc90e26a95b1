import PyProof.Rows.All
import Wide.All
import OpenK.AllK
import Wide.FinOn
import HandS.ForMost
import HandS.Exc
import HandS.TryOnly
import HandS.ExcOwn
import HandS.WordsExc
import HandS.Defaults
import HandS.Wide
import HandS.TupMul
import HandS.Deep
import KE.SortCalls
import KE.SortData
import KE.DataMinMax
import KE.DataFind
import KE.DataEq
import KE.DatumIndex
import HandS.TupAny
import HandS.IsInst
import HandS.Walk
import HandS.Lambda
import PyProof.StrBlock2
import HandS.Conv
import HandS.Iter
import HandS.Small
import KE.GoesEnum
import HandS.Rev
import HandS.RevRange
import HandS.Comp
import HandS.Strs
import HandS.Set
import PyProof.ListNew
import HandS.ExcCtx
import HandS.HotCalls
import HandS.ExcIs
import HandS.List
import HandS.DictComp
import Lean
import HandS.Head0
import HandS.Head1
import HandS.Head2
import HandS.HeadEnd
import HandS.HeadHook1
import HandS.HeadHook2
import HandS.HeadHook3
import HandS.HeadHook4
import HandS.HeadWalk
import PySem.Challenge.RW_tablediffs_k01_whole_tables
import PyProof.TableCode
set_option Elab.async false
section
set_option autoImplicit false
/-! A small pure language: data, codes, and what a code is worth. -/
namespace G

/-- plain data -/
inductive D where
  | non | bl (b : Bool) | int (i : Int) | str (s : List Nat) | tup (ds : List D) | lst (ds : List D)

mutual
def eqD : D → D → Bool
  | .non, .non => true
  | .bl a, .bl b => a == b
  | .bl a, .int j => (if a then 1 else 0) == j
  | .int i, .bl b => i == (if b then 1 else 0)
  | .int i, .int j => i == j
  | .str a, .str b => a == b
  | .tup xs, .tup ys => eqDs xs ys
  | .lst xs, .lst ys => eqDs xs ys
  | _, _ => false
def eqDs : List D → List D → Bool
  | [], [] => true
  | x :: xs, y :: ys => eqD x y && eqDs xs ys
  | _, _ => false
end

mutual
def depth : D → Nat
  | .tup ds => depths ds + 1
  | .lst ds => depths ds + 1
  | _ => 0
def depths : List D → Nat
  | [] => 0
  | d :: ds => max (depth d) (depths ds)
end

/-- texts by code points -/
def ltN : List Nat → List Nat → Bool
  | _, [] => false
  | [], _ :: _ => true
  | x :: xs, y :: ys => if x < y then true else if y < x then false else ltN xs ys

mutual
/-- < of alike data -/
def ltD : D → D → Bool
  | .int i, .int j => decide (i < j)
  | .str a, .str b => ltN a b
  | .tup xs, .tup ys => ltDs xs ys
  | .lst xs, .lst ys => ltDs xs ys
  | _, _ => false
def ltDs : List D → List D → Bool
  | [], [] => false
  | [], _ :: _ => true
  | _ :: _, [] => false
  | x :: xs, y :: ys => if eqD x y then ltDs xs ys else ltD x y
end

mutual
/-- they can be compared place by place -/
def alike : D → D → Bool
  | .int _, .int _ => true
  | .str _, .str _ => true
  | .tup xs, .tup ys => alikes xs ys
  | .lst xs, .lst ys => alikes xs ys
  | _, _ => false
def alikes : List D → List D → Bool
  | x :: xs, y :: ys => alike x y && alikes xs ys
  | [], _ => true
  | _ :: _, [] => true
end

/-- every two of them -/
def allAlike (ds : List D) : Bool := ds.all fun d => ds.all fun e => alike d e

/-- d stood ahead of them: it goes ahead of equal ones -/
def insR (d : D) : List D → List D
  | [] => [d]
  | e :: es => if ltD e d then e :: insR d es else d :: e :: es
def sortD : List D → List D
  | [] => []
  | d :: ds => insR d (sortD ds)

/-- what a name or an expression may stand for -/
inductive W where
  | d (d : D)
  | dct (kvs : List (D × D))
  | dci (kvs : List (Int × D))
  | dice | book
  | exc (c : Nat)

/-- a slot of a frame: nothing, a value, a list that is the slot's alone -/
inductive Slot where
  | no | w (w : W) | own (ds : List D) | ownd (kvs : List (D × D))

structure Book where
  weights : D
  kept : D
  undone : D

/-- what lives beside the frame -/
structure Sto where
  dice : Option (Int × Int) := none
  book : Option Book := none

inductive Res (α : Type) where
  | ok (a : α) (s : Sto)
  | exc (c : Nat) (s : Sto)
  | bad

def Res.bind {α β : Type} (r : Res α) (f : α → Sto → Res β) : Res β := match r with
  | .ok a s => f a s
  | .exc c s => .exc c s
  | .bad => .bad

abbrev Env := List Slot
abbrev Fn := List W → Sto → Res W

inductive Bop where | add | sub | mul | fdiv | mod | pow
inductive Cop where | eq | ne | lt | le | gt | ge | isN | notN | isIn | notIn
inductive Ty where | int | bool | str | tuple | list
/-- built-in calls of one argument -/
inductive B1 where | len | all | any | sum | tuple | list | sorted | min | max | abs | int | str | lenset | lrev
/-- built-in calls and methods of two arguments -/
inductive B2 where | min2 | max2 | count | index | join | split

mutual
inductive C where
  | v (i : Nat)
  | k (d : D)
  | gl (n : Nat)
  | bin (o : Bop) (a b : C)
  | neg (a : C)
  | not_ (a : C)
  | and_ (a b : C)
  | or_ (a b : C)
  | cmp (o : Cop) (a b : C)
  | chain (o p : Cop) (a b c : C)
  | ife (t a b : C)
  | tup (es : Cs)
  | lst (es : Cs)
  | ix (a i : C)
  | sl (a lo hi : C)
  | nopart
  | no
  | rev (a : C)
  | lrg (a : C)
  | lc (own : List Nat) (tup : Bool) (it : It) (cond elt : C)
  | dc (own : List Nat) (it : It) (key val : C)
  | call (f : Nat) (es : Cs)
  | b1 (f : B1) (a : C)
  | b2 (f : B2) (a b : C)
  | isi (a : C) (t : Ty)
  | told (a : C)
inductive Cs where
  | nil
  | cons (c : C) (cs : Cs)
inductive It where
  | e (a : C)
  | p (i : Nat)
  | rng (a : C)
  | rng2 (a b : C)
  | enum (a : C)
  | rev (a : C)
  | revr (a : C)
  | zip (a b : C)
end

def noPart : C → Bool
  | .nopart => true
  | _ => false

/-- the names of the exceptions' classes -/
def exNm : List (List Nat) := [[73, 110, 118, 97, 108, 105, 100, 84, 97, 98, 108, 101], [73, 110, 118, 97, 108, 105, 100, 78, 97, 109, 101], [73, 110, 118, 97, 108, 105, 100, 78, 117, 109, 98, 101, 114], [73, 110, 118, 97, 108, 105, 100, 80, 97, 105, 114, 105, 110, 103], [73, 110, 118, 97, 108, 105, 100, 65, 108, 105, 103, 110, 109, 101, 110, 116], [73, 110, 118, 97, 108, 105, 100, 87, 101, 105, 103, 104, 116, 115], [73, 110, 118, 97, 108, 105, 100, 80, 108, 97, 110], [73, 110, 118, 97, 108, 105, 100, 83, 112, 108, 105, 116], [73, 110, 118, 97, 108, 105, 100, 86, 101, 114, 115, 105, 111, 110, 115], [66, 111, 111, 107, 70, 117, 108, 108], [78, 111, 116, 104, 105, 110, 103, 84, 111, 85, 110, 100, 111], [73, 110, 118, 97, 108, 105, 100, 84, 101, 120, 116]]
def errD : D := .str [101, 114, 114, 111, 114]
/-- what is told of a call: its value, or its exception's name -/
def toldR : Res W → Res W
  | .exc c s => (match exNm[c]? with
    | some n => .ok (.d (.tup [errD, .str n])) s
    | none => .bad)
  | r => r
section
variable (glob : Nat → D) (Φ : Nat → Option Fn)

def lim : Nat := 16777216

/-- a pure value -/
def pureR (d : D) (s : Sto) : Res W := .ok (.d d) s
def blR (b : Bool) (s : Sto) : Res W := .ok (.d (.bl b)) s

def mulOk (i j : Int) : Bool := decide (i.natAbs < 18446744073709551616) || decide (j.natAbs < 18446744073709551616) || decide (i.natAbs.log2 + j.natAbs.log2 < 1000000)
def divOk (j : Int) : Bool := decide (0 < j) && decide (j.natAbs.log2 < 9000)
def rep {α : Type} (n : Nat) (xs : List α) : List α := (List.replicate n xs).flatten

def binR (o : Bop) (a b : W) (s : Sto) : Res W := match o, a, b with
  | .add, .d (.int i), .d (.int j) => pureR (.int (i + j)) s
  | .add, .d (.str x), .d (.str y) => if x.length + y.length ≤ lim then pureR (.str (x ++ y)) s else .bad
  | .add, .d (.tup x), .d (.tup y) => if x.length + y.length ≤ lim then pureR (.tup (x ++ y)) s else .bad
  | .add, .d (.lst x), .d (.lst y) => if x.length + y.length ≤ lim then pureR (.lst (x ++ y)) s else .bad
  | .sub, .d (.int i), .d (.int j) => pureR (.int (i - j)) s
  | .mul, .d (.int i), .d (.int j) => if mulOk i j then pureR (.int (i * j)) s else .bad
  | .mul, .d (.tup x), .d (.int j) => if decide (x.length ≤ 1000) && !x.isEmpty && decide (1 ≤ j) && decide (j ≤ 1000) then pureR (.tup (rep j.toNat x)) s else .bad
  | .mul, .d (.str x), .d (.int j) => if decide (x.length ≤ 1000) && decide (0 ≤ j) && decide (j ≤ 1000) then pureR (.str (rep j.toNat x)) s else .bad
  | .mul, .d (.lst x), .d (.int j) => if decide (x.length ≤ 1000) && decide (0 ≤ j) && decide (j ≤ 1000) then pureR (.lst (rep j.toNat x)) s else .bad
  | .fdiv, .d (.int i), .d (.int j) => if divOk j then pureR (.int (i / j)) s else .bad
  | .mod, .d (.int i), .d (.int j) => if decide (0 < j) then pureR (.int (i % j)) s else .bad
  | .pow, .d (.int i), .d (.int j) => if decide (0 ≤ j) && decide (j ≤ 1000) && decide (i.natAbs < 18446744073709551616) then pureR (.int (i ^ j.toNat)) s else .bad
  | _, _, _ => .bad

def itemsOf : W → Option (List D)
  | .d (.tup ds) => some ds
  | .d (.lst ds) => some ds
  | _ => none

/-- one text within another, of one sign -/
def hasSign (c : List Nat) (x : List Nat) : Option Bool := match c with
  | [n] => some (x.contains n)
  | _ => none

def inD (d : D) (ds : List D) : Bool := ds.any fun e => eqD e d
def depthOk (d e : D) : Bool := decide (min (depth d) (depth e) ≤ 60)
def getKV (kvs : List (D × D)) (k : D) : Option D := match kvs with
  | [] => none
  | (a, b) :: r => if eqD a k then some b else getKV r k
/-- a key: an int, or a tuple of ints -/
def isInt : D → Bool
  | .int _ => true
  | _ => false
def isKey : D → Bool
  | .int _ => true
  | .tup ds => ds.all isInt
  | _ => false

/-- a key of a dict: a tuple of ints -/
def keyT : D → Bool
  | .tup ds => ds.all isInt
  | _ => false
def hasKV (kvs : List (D × D)) (k : D) : Bool := kvs.any fun p => eqD p.1 k
def getKI (kvs : List (Int × D)) (k : Int) : Option D := match kvs with
  | [] => none
  | (a, b) :: r => if a = k then some b else getKI r k
def hasKI (kvs : List (Int × D)) (k : Int) : Bool := kvs.any fun p => decide (p.1 = k)
def putKI (kvs : List (Int × D)) (k : Int) (v : D) : List (Int × D) :=
  if hasKI kvs k = true then kvs.map (fun p => if p.1 = k then (p.1, v) else p) else kvs ++ [(k, v)]

def isNon : D → Bool
  | .non => true
  | _ => false
def cmpR (o : Cop) (a b : W) (s : Sto) : Res W := match o, a, b with
  | .isN, .d x, .d .non => blR (isNon x) s
  | .notN, .d x, .d .non => blR (!isNon x) s
  | .eq, .d x, .d y => if depthOk x y then blR (eqD x y) s else .bad
  | .ne, .d x, .d y => if depthOk x y then blR (!eqD x y) s else .bad
  | .lt, .d (.int i), .d (.int j) => blR (decide (i < j)) s
  | .le, .d (.int i), .d (.int j) => blR (decide (i ≤ j)) s
  | .gt, .d (.int i), .d (.int j) => blR (decide (j < i)) s
  | .ge, .d (.int i), .d (.int j) => blR (decide (j ≤ i)) s
  | .lt, .d (.tup x), .d (.tup y) => if alikes x y && depthOk (.tup x) (.tup y) then blR (ltDs x y) s else .bad
  | .isIn, .d (.str c), .d (.str x) => (match hasSign c x with | some b => blR b s | none => .bad)
  | .notIn, .d (.str c), .d (.str x) => (match hasSign c x with | some b => blR (!b) s | none => .bad)
  | .isIn, .d x, .d (.lst ds) => if depthOk x (.lst ds) then blR (inD x ds) s else .bad
  | .notIn, .d x, .d (.lst ds) => if depthOk x (.lst ds) then blR (!inD x ds) s else .bad
  | .isIn, .d x, .d (.tup ds) => if depthOk x (.tup ds) then blR (inD x ds) s else .bad
  | .notIn, .d x, .d (.tup ds) => if depthOk x (.tup ds) then blR (!inD x ds) s else .bad
  | .isIn, .d k, .dct kvs => if keyT k then blR (hasKV kvs k) s else .bad
  | .notIn, .d k, .dct kvs => if keyT k then blR (!hasKV kvs k) s else .bad
  | .isIn, .d (.int k), .dci kvs => blR (hasKI kvs k) s
  | .notIn, .d (.int k), .dci kvs => blR (!hasKI kvs k) s
  | _, _, _ => .bad

/-- the place that an index means -/
def place (n : Nat) (i : Int) : Option Nat := if 0 ≤ i then (if i < n then some i.toNat else none) else if -(n : Int) ≤ i then some (i + n).toNat else none
def getI {α : Type} (xs : List α) (i : Int) : Option α := (place xs.length i).bind fun j => xs[j]?

def ixR (a i : W) (s : Sto) : Res W := match a, i with
  | .d (.tup ds), .d (.int n) => (match getI ds n with | some d => pureR d s | none => .bad)
  | .d (.lst ds), .d (.int n) => (match getI ds n with | some d => pureR d s | none => .bad)
  | .d (.str x), .d (.int n) => if x.length ≤ lim then (match getI x n with | some c => pureR (.str [c]) s | none => .bad) else .bad
  | .dice, .d (.int n) => (match s.dice with
    | some (c, m) => if n = 0 then pureR (.int c) s else if n = 1 then pureR (.int m) s else .bad
    | none => .bad)
  | .dci kvs, .d (.int n) => (match getKI kvs n with | some d => pureR d s | none => .bad)
  | _, _ => .bad

/-- a slice's bound as a place among n -/
def bound (n d : Nat) : Option Int → Nat
  | none => d
  | some v => if v < 0 then (v + (n : Int)).toNat else min v.toNat n
def cut {α : Type} (xs : List α) (lo hi : Option Int) : List α := (xs.drop (bound xs.length 0 lo)).take (bound xs.length xs.length hi - bound xs.length 0 lo)
def slR (a : W) (lo hi : Option Int) (s : Sto) : Res W := match a with
  | .d (.tup ds) => pureR (.tup (cut ds lo hi)) s
  | .d (.lst ds) => pureR (.lst (cut ds lo hi)) s
  | .d (.str x) => if x.length ≤ lim then pureR (.str (cut x lo hi)) s else .bad
  | _ => .bad

def isBl : D → Option Bool
  | .bl b => some b
  | _ => none
def asInt : D → Option Int
  | .int i => some i
  | _ => none
def asStr : D → Option (List Nat)
  | .str x => some x
  | _ => none
/-- all of them so, as values -/
def allM {α : Type} (f : D → Option α) : List D → Option (List α)
  | [] => some []
  | d :: ds => match f d, allM f ds with
    | some a, some r => some (a :: r)
    | _, _ => none

/-- each where it is met first -/
def metD (ds : List D) : List D := ds.foldl (fun acc d => if inD d acc then acc else acc ++ [d]) []
/-- how many unlike ones -/
def unlike (ds : List D) : Nat := (metD ds).length
def flat : D → Bool
  | .int _ => true
  | _ => false
def flatS : D → Bool
  | .str _ => true
  | _ => false

def digitsR : Nat → List Nat
  | n => (Nat.toDigits 10 n).map Char.toNat
def intStr (i : Int) : List Nat := if i < 0 then 45 :: digitsR i.natAbs else digitsR i.natAbs
/-- the digits' worth -/
def worth : Nat → List Nat → Nat
  | a, [] => a
  | a, c :: cs => worth (10 * a + (c - 48)) cs
def isDigits (x : List Nat) : Bool := !x.isEmpty && x.all fun c => decide (48 ≤ c) && decide (c ≤ 57)

def b1R (f : B1) (a : W) (s : Sto) : Res W := match f, a with
  | .len, .d (.tup ds) => pureR (.int ds.length) s
  | .len, .d (.lst ds) => pureR (.int ds.length) s
  | .len, .d (.str x) => if x.length ≤ lim then pureR (.int x.length) s else .bad
  | .all, .d (.lst ds) => (match allM isBl ds with | some bs => blR (bs.all id) s | none => .bad)
  | .any, .d (.lst ds) => (match allM isBl ds with | some bs => blR (bs.any id) s | none => .bad)
  | .sum, .d (.lst ds) => (match allM asInt ds with | some is => pureR (.int is.sum) s | none => .bad)
  | .tuple, .d (.lst ds) => pureR (.tup ds) s
  | .tuple, .d (.tup ds) => pureR (.tup ds) s
  | .list, .d (.lst ds) => pureR (.lst ds) s
  | .list, .d (.tup ds) => pureR (.lst ds) s
  | .list, .dct kvs => pureR (.lst (kvs.map (·.1))) s
  | .sorted, .d (.lst ds) => if allAlike ds && decide (depths ds ≤ 50) then pureR (.lst (sortD ds)) s else .bad
  | .min, .d (.lst ds) => (match allM asInt ds with | some (i :: is) => pureR (.int (is.foldl min i)) s | _ => .bad)
  | .max, .d (.lst ds) => (match allM asInt ds with | some (i :: is) => pureR (.int (is.foldl max i)) s | _ => .bad)
  | .abs, .d (.int i) => pureR (.int (if i < 0 then -i else i)) s
  | .int, .d (.int i) => pureR (.int i) s
  | .int, .d (.bl b) => pureR (.int (if b then 1 else 0)) s
  | .lrev, .d (.lst ds) => pureR (.lst ds.reverse) s
  | .lrev, .d (.tup ds) => pureR (.lst ds.reverse) s
  | .lenset, .d (.lst ds) => if (ds.all flat || ds.all flatS) && decide (ds.length ≤ 1000) then pureR (.int (unlike ds)) s else .bad
  | .lenset, .d (.tup ds) => if (ds.all flat || ds.all flatS) && decide (ds.length ≤ 1000) then pureR (.int (unlike ds)) s else .bad
  | _, _ => .bad

def countD (ds : List D) (d : D) : Nat := ds.countP fun e => eqD e d
def indexD (d : D) : List D → Option Nat
  | [] => none
  | e :: es => if eqD e d then some 0 else (indexD d es).map (· + 1)

def b2R (f : B2) (a b : W) (s : Sto) : Res W := match f, a, b with
  | .min2, .d (.int i), .d (.int j) => pureR (.int (if j < i then j else i)) s
  | .max2, .d (.int i), .d (.int j) => pureR (.int (if j > i then j else i)) s
  | .index, .d (.lst ds), .d d => if ds.all flat && flat d then (match indexD d ds with | some n => pureR (.int n) s | none => .bad) else .bad
  | .index, .d (.tup ds), .d d => if ds.all flatS && flatS d then (match indexD d ds with | some n => pureR (.int n) s | none => .bad) else .bad
  | .count, .d (.lst ds), .d d => if ds.all flatS && flatS d then pureR (.int (countD ds d)) s else .bad
  | _, _, _ => .bad

/-- what a method may be called of -/
def fstOk : B2 → W → Bool
  | .min2, _ => true
  | .max2, _ => true
  | _, .d (.lst _) => true
  | .index, .d (.tup _) => true
  | _, _ => false
def isiD (d : D) (t : Ty) : Bool := match d, t with
  | .int _, .int => true
  | .bl _, .int => true
  | .bl _, .bool => true
  | .str _, .str => true
  | .tup _, .tuple => true
  | .lst _, .list => true
  | _, _ => false

def rangeD (a b : Int) : List D := (List.range (b - a).toNat).map fun i => .int (a + (i : Nat))
/-- by Nat.ble: it stays stuck at once where it is open -/
def rngOk (a b : Int) : Bool := Nat.ble a.natAbs 2305843009213693951 && Nat.ble b.natAbs 2305843009213693951 && Nat.ble (b - a).toNat lim
def enumD (n : Nat) : List D → List D
  | [] => []
  | d :: ds => .tup [.int n, d] :: enumD (n + 1) ds
def zipD : List D → List D → List D
  | x :: xs, y :: ys => .tup [x, y] :: zipD xs ys
  | _, _ => []

/-- a target: one name, or several -/
def setEach (is : List Nat) (ds : List D) (δ : Env) : Option Env := match is, ds with
  | [], [] => some δ
  | i :: is, d :: ds => setEach is ds (δ.set i (.w (.d d)))
  | _, _ => none
def setTg (tup : Bool) (is : List Nat) (d : D) (δ : Env) : Option Env := match tup, is, d with
  | false, [i], d => some (δ.set i (.w (.d d)))
  | true, is, .tup ds => setEach is ds δ
  | _, _, _ => none

/-- the turns of a comprehension: f gives an item, or none where the test fails -/
def lcGo (f : D → Sto → Res (Option D)) : List D → List D → Sto → Res (List D)
  | [], acc, s => .ok acc s
  | d :: ds, acc, s => (f d s).bind fun o s => match o with
    | some x => if acc.length < lim then lcGo f ds (acc ++ [x]) s else .bad
    | none => lcGo f ds acc s
def putKV (kvs : List (D × D)) (k v : D) : List (D × D) := match kvs with
  | [] => [(k, v)]
  | (a, b) :: r => if eqD a k then (a, v) :: r else (a, b) :: putKV r k v
def dcGo (f : D → Sto → Res (D × D)) : List D → List (Int × D) → Sto → Res (List (Int × D))
  | [], acc, s => .ok acc s
  | d :: ds, acc, s => (f d s).bind fun kv s => match kv.1 with
    | .int k => if acc.length < lim then dcGo f ds (putKI acc k kv.2) s else .bad
    | _ => .bad

/-- an exception within a comprehension isn't told -/
def noExc {α : Type} : Res α → Res α
  | .exc _ _ => .bad
  | r => r

def truth : W → Option Bool
  | .d (.bl b) => some b
  | .d (.int i) => some (i != 0)
  | _ => none

/-- read in passing: a list of the slot's own too -/
def peek (a : C) (δ : Env) (s : Sto) (r : Res W) : Res W := match a with
  | .v i => (match δ[i]? with
    | some (.own ds) => .ok (.d (.lst ds)) s
    | some (.ownd kvs) => .ok (.dct kvs) s
    | _ => r)
  | _ => r
/-- a slice's part -/
def part (a : C) (s : Sto) (r : Res W) : Res (Option Int) := match a with
  | .nopart => .ok none s
  | _ => r.bind fun x s => match x with
    | .d (.int i) => .ok (some i) s
    | _ => .bad

mutual
def evC : C → Env → Sto → Res W
  | .v i, δ, s => (match δ[i]? with
    | some (.w w) => .ok w s
    | _ => .bad)
  | .k d, _, s => pureR d s
  | .gl n, _, s => pureR (glob n) s
  | .bin o a b, δ, s => (evC a δ s).bind fun x s => (evC b δ s).bind fun y s => binR o x y s
  | .neg a, δ, s => (evC a δ s).bind fun x s => match x with
    | .d (.int i) => pureR (.int (-i)) s
    | _ => .bad
  | .not_ a, δ, s => (evC a δ s).bind fun x s => match x with
    | .d (.bl b) => blR (!b) s
    | _ => .bad
  | .and_ a b, δ, s => (evC a δ s).bind fun x s => match x with
    | .d (.bl true) => (evC b δ s).bind fun y s => (match y with | .d (.bl c) => blR c s | _ => .bad)
    | .d (.bl false) => blR false s
    | _ => .bad
  | .or_ a b, δ, s => (evC a δ s).bind fun x s => match x with
    | .d (.bl false) => (evC b δ s).bind fun y s => (match y with | .d (.bl c) => blR c s | _ => .bad)
    | .d (.bl true) => blR true s
    | _ => .bad
  | .cmp o a b, δ, s => (peek a δ s (evC a δ s)).bind fun x s => (peek b δ s (evC b δ s)).bind fun y s => cmpR o x y s
  | .chain o p a b c, δ, s => (evC a δ s).bind fun x s => (evC b δ s).bind fun y s => (cmpR o x y s).bind fun z s => match z with
    | .d (.bl true) => (evC c δ s).bind fun w s => cmpR p y w s
    | .d (.bl false) => blR false s
    | _ => .bad
  | .ife t a b, δ, s => (evC t δ s).bind fun x s => match truth x with
    | some true => evC a δ s
    | some false => evC b δ s
    | none => .bad
  | .tup es, δ, s => (evDs es δ s).bind fun ds s => if ds.length ≤ lim then pureR (.tup ds) s else .bad
  | .lst es, δ, s => (evDs es δ s).bind fun ds s => if ds.length ≤ lim then pureR (.lst ds) s else .bad
  | .ix a i, δ, s => (peek a δ s (evC a δ s)).bind fun x s => (evC i δ s).bind fun y s => ixR x y s
  | .sl a lo hi, δ, s => (evC a δ s).bind fun x s => (part lo s (evC lo δ s)).bind fun l s => (part hi s (evC hi δ s)).bind fun h s => slR x l h s
  | .nopart, _, _ => .bad
  | .no, _, _ => .bad
  | .rev a, δ, s => (evC a δ s).bind fun x s => match x with
    | .d (.tup ds) => pureR (.tup ds.reverse) s
    | .d (.lst ds) => pureR (.lst ds.reverse) s
    | _ => .bad
  | .lrg a, δ, s => (evC a δ s).bind fun x s => (match x with
    | .d (.int n) => if rngOk 0 n then pureR (.lst (rangeD 0 n)) s else .bad
    | _ => .bad)
  | .lc own tup it cond elt, δ, s => (evIt it δ s).bind fun ds s =>
      (noExc (lcGo (fun d s => match setTg tup own d δ with
        | some δ' => (evC cond δ' s).bind fun c s => (match truth c with
          | some true => (evC elt δ' s).bind fun x s => (match x with | .d y => .ok (some y) s | _ => .bad)
          | some false => .ok none s
          | none => .bad)
        | none => .bad) ds [] s)).bind fun ys s => pureR (.lst ys) s
  | .dc own it key val, δ, s => (evIt it δ s).bind fun ds s =>
      (noExc (dcGo (fun d s => match setTg true own d δ with
        | some δ' => (evC key δ' s).bind fun k s => (evC val δ' s).bind fun v s => (match k, v with | .d k, .d v => .ok (k, v) s | _, _ => .bad)
        | none => .bad) ds [] s)).bind fun kvs s => .ok (.dci kvs) s
  | .call f es, δ, s => (evWs es δ s).bind fun ws s => match Φ f with
    | some φ => φ ws s
    | none => .bad
  | .b1 f a, δ, s => (peek a δ s (evC a δ s)).bind fun x s => b1R f x s
  | .b2 f a b, δ, s => (evC a δ s).bind fun x s => if fstOk f x = true then (evC b δ s).bind fun y s => b2R f x y s else .bad
  | .isi a t, δ, s => (evC a δ s).bind fun x s => match x with
    | .d d => blR (isiD d t) s
    | _ => .bad
  | .told a, δ, s => toldR (evC a δ s)
def evDs : Cs → Env → Sto → Res (List D)
  | .nil, _, s => .ok [] s
  | .cons c cs, δ, s => (evC c δ s).bind fun x s => match x with
    | .d d => (evDs cs δ s).bind fun ds s => .ok (d :: ds) s
    | _ => .bad
def evWs : Cs → Env → Sto → Res (List W)
  | .nil, _, s => .ok [] s
  | .cons c cs, δ, s => (evC c δ s).bind fun x s => (evWs cs δ s).bind fun xs s => .ok (x :: xs) s
def evIt : It → Env → Sto → Res (List D)
  | .p i, δ, s => (match δ[i]? with
    | some (.own ds) => .ok ds s
    | some (.w (.d (.lst ds))) => .ok ds s
    | _ => .bad)
  | .e a, δ, s => (evC a δ s).bind fun x s => (match x with
    | .d (.tup ds) => .ok ds s
    | .d (.lst ds) => .ok ds s
    | .d (.str x) => .ok (x.map fun c => .str [c]) s
    | .dct kvs => .ok (kvs.map (·.1)) s
    | _ => .bad)
  | .rng a, δ, s => (evC a δ s).bind fun x s => (match x with
    | .d (.int n) => if rngOk 0 n then .ok (rangeD 0 n) s else .bad
    | _ => .bad)
  | .rng2 a b, δ, s => (evC a δ s).bind fun x s => (evC b δ s).bind fun y s => (match x, y with
    | .d (.int m), .d (.int n) => if rngOk m n then .ok (rangeD m n) s else .bad
    | _, _ => .bad)
  | .enum a, δ, s => (evC a δ s).bind fun x s => (match itemsOf x with
    | some ds => .ok (enumD 0 ds) s
    | none => .bad)
  | .rev a, δ, s => (evC a δ s).bind fun x s => (match itemsOf x with
    | some ds => .ok ds.reverse s
    | none => .bad)
  | .revr a, δ, s => (evC a δ s).bind fun x s => (match x with
    | .d (.int n) => if rngOk 0 n then .ok (rangeD 0 n).reverse s else .bad
    | _ => .bad)
  | .zip a b, δ, s => (evC a δ s).bind fun x s => (evC b δ s).bind fun y s => (match x, y with
    | .d (.lst xs), .d (.lst ys) => .ok (zipD xs ys) s
    | _, _ => .bad)
end

end

mutual
inductive S where
  | asg (i : Nat) (e : C)
  | asgo (i : Nat) (e : C)
  | newd (i : Nat)
  | unp (is : List Nat) (e : C)
  | par (is : List (Nat × Bool)) (es : Cs)
  | app (i : Nat) (e : C)
  | seti (i : Nat) (ix e : C)
  | setd (i : Nat) (key e : C)
  | setdice (i : Nat) (n : Nat) (e : C)
  | ret (e : C)
  | retn
  | ife (t : C) (a b : Ss)
  | for_ (tup : Bool) (tg : List Nat) (it : It) (body : Ss)
  | while_ (t : C) (body : Ss)
  | raise (c : Nat)
  | ex (e : C)
  | pass
  | no
  | frz (i : Nat)
inductive Ss where
  | nil
  | cons (s : S) (ss : Ss)
end

/-- a statement's end -/
inductive RS where
  | nx (δ : Env) (s : Sto)
  | rt (w : W) (s : Sto)
  | exc (c : Nat) (s : Sto)
  | bad

def RS.then (r : RS) (f : Env → Sto → RS) : RS := match r with
  | .nx δ s => f δ s
  | r => r
def Res.toS {α : Type} (r : Res α) (f : α → Sto → RS) : RS := match r with
  | .ok a s => f a s
  | .exc c s => .exc c s
  | .bad => .bad

/-- a slot's own list, from a value -/
def ownOf : W → Option Slot
  | .d (.lst ds) => some (.own ds)
  | _ => none
def setPar : List (Nat × Bool) → List W → Env → Option Env
  | [], [], δ => some δ
  | (i, false) :: is, w :: ws, δ => setPar is ws (δ.set i (.w w))
  | (i, true) :: is, w :: ws, δ => (match ownOf w with
    | some o => setPar is ws (δ.set i o)
    | none => none)
  | _, _, _ => none
def freeze (i : Nat) (δ : Env) : Env := match δ[i]? with
  | some (.own ds) => δ.set i (.w (.d (.lst ds)))
  | some (.ownd kvs) => δ.set i (.w (.dct kvs))
  | _ => δ
def forGo (tup : Bool) (tg : List Nat) (f : Env → Sto → RS) : List D → Env → Sto → RS
  | [], δ, s => .nx δ s
  | d :: ds, δ, s => match setTg tup tg d δ with
    | some δ' => (f δ' s).then fun δ s => forGo tup tg f ds δ s
    | none => .bad
/-- so many turns at most -/
def whGo (t : Env → Sto → Res W) (f : Env → Sto → RS) : Nat → Env → Sto → Option RS
  | 0, _, _ => none
  | n + 1, δ, s => match t δ s with
    | .ok w s => (match truth w with
      | some true => (match f δ s with
        | .nx δ s => whGo t f n δ s
        | r => some r)
      | some false => some (.nx δ s)
      | none => some .bad)
    | .exc c s => some (.exc c s)
    | .bad => some .bad
noncomputable def whS (t : Env → Sto → Res W) (f : Env → Sto → RS) (δ : Env) (s : Sto) : RS := by
  classical exact if h : ∃ n r, whGo t f n δ s = some r then h.choose_spec.choose else .bad

section
variable (glob : Nat → D) (Φ : Nat → Option Fn)
mutual
noncomputable def evS : S → Env → Sto → RS
  | .asg i e, δ, s => (evC glob Φ e δ s).toS fun w s => .nx (δ.set i (.w w)) s
  | .asgo i e, δ, s => (evC glob Φ e δ s).toS fun w s => (match ownOf w with
    | some o => .nx (δ.set i o) s
    | none => .bad)
  | .newd i, δ, s => .nx (δ.set i (.ownd [])) s
  | .unp is e, δ, s => (evC glob Φ e δ s).toS fun w s => (match w with
    | .d d => (match setTg true is d δ with
      | some δ => .nx δ s
      | none => .bad)
    | _ => .bad)
  | .par is es, δ, s => (evWs glob Φ es δ s).toS fun ws s => (match setPar is ws δ with
    | some δ => .nx δ s
    | none => .bad)
  | .app i e, δ, s => (match δ[i]? with
    | some (.own ds) => (evC glob Φ e δ s).toS fun w s => (match w with
      | .d d => if ds.length < lim then .nx (δ.set i (.own (ds ++ [d]))) s else .bad
      | _ => .bad)
    | _ => .bad)
  | .seti i ix e, δ, s => (evC glob Φ e δ s).toS fun w s => (match w, δ[i]? with
    | .d d, some (.own ds) => (evC glob Φ ix δ s).toS fun x s => (match x with
      | .d (.int n) => (match place ds.length n with
        | some j => .nx (δ.set i (.own (ds.set j d))) s
        | none => .bad)
      | _ => .bad)
    | _, _ => .bad)
  | .setd i key e, δ, s => (evC glob Φ e δ s).toS fun w s => (match w, δ[i]? with
    | .d d, some (.ownd kvs) => (evC glob Φ key δ s).toS fun x s => (match x with
      | .d k => if keyT k && decide (kvs.length < lim) then .nx (δ.set i (.ownd (putKV kvs k d))) s else .bad
      | _ => .bad)
    | _, _ => .bad)
  | .setdice i n e, δ, s => (evC glob Φ e δ s).toS fun w s => (match w, δ[i]?, s.dice with
    | .d (.int x), some (.w .dice), some (c, m) => if n = 0 then .nx δ { s with dice := some (x, m) } else if n = 1 then .nx δ { s with dice := some (c, x) } else .bad
    | _, _, _ => .bad)
  | .ret e, δ, s => (evC glob Φ e δ s).toS fun w s => .rt w s
  | .retn, _, s => .rt (.d .non) s
  | .ife t a b, δ, s => (evC glob Φ t δ s).toS fun w s => (match truth w with
    | some true => evSs a δ s
    | some false => evSs b δ s
    | none => .bad)
  | .for_ tup tg it body, δ, s => (evIt glob Φ it δ s).toS fun ds s => forGo tup tg (fun δ s => evSs body δ s) ds δ s
  | .while_ t body, δ, s => whS (fun δ s => evC glob Φ t δ s) (fun δ s => evSs body δ s) δ s
  | .raise c, _, s => .exc c s
  | .ex e, δ, s => (evC glob Φ e δ s).toS fun _ s => .nx δ s
  | .pass, δ, s => .nx δ s
  | .no, _, _ => .bad
  | .frz i, δ, s => .nx (freeze i δ) s
noncomputable def evSs : Ss → Env → Sto → RS
  | .nil, δ, s => .nx δ s
  | .cons a b, δ, s => (evS a δ s).then fun δ s => evSs b δ s
end

/-- a def: so many parameters, so many names, its body -/
structure Code where
  pars : Nat
  names : Nat
  body : Ss
noncomputable def evF (c : Code) : Fn := fun ws s =>
  if ws.length = c.pars then (match evSs glob Φ c.body (ws.map Slot.w ++ List.replicate (c.names - c.pars) Slot.no) s with
    | .nx _ s => .ok (.d .non) s
    | .rt w s => .ok w s
    | .exc c s => .exc c s
    | .bad => .bad) else .bad
end
abbrev PP (acc : List Fn) : Nat → Option Fn := fun i => acc[i]?
end G
end
section
set_option Elab.async false
set_option linter.all false
set_option maxRecDepth 100000
set_option maxHeartbeats 1000000
/-! tuples that are made here: the object has no dict -/
namespace G
open PySem PySem.Spec PyProof.Rows L2
/-- a new tuple -/
abbrev newT (us : Array Value) : Obj := { cls := .type "tuple", data := .seq us }
theorem okT {P : Program} {w : World} {H : Hp} {h : Heap} {a : Addr} {xs : List V} {us : List Value} (z : xs.length ≤ sizeLine) (r : Vals xs us) (e : h.get? a = some (newT us.toArray)) : ObjOk P w H h a (.frz (newT us.toArray) (.tup xs)) :=
  ⟨e, z, us, r, ⟨_, e, rfl, _, rfl⟩⟩
section
variable {X : Cx}
def tTupB (t : TA) : TE := fun σ H Q => t σ H fun xs H1 => xs.length ≤ sizeLine ∧ ∀ p o, H1 p = none → o.dict = none → Q (.ref p) (upd H1 p (.frz o (.tup xs)))
theorem pe_tupB {es : List Expr} {t : TA} {pos : Pos} {x1 : Nat} (h : PA X es t) : PE X (.Tuple es x1 pos) (tTupB t) := by
  refine ⟨fun pins s σ H Q I hq => ?_⟩
  refine wpAny_Tuple_spliced (thn (h.run pos pins s σ H _ I hq) fun us s1 ⟨xs, H1, I1, r, z, q⟩ => ⟨by rw [← r.length]; exact z, ?_⟩)
  have hf : H1 s1.heap.objs.size = none := I1.hok.fresh (Nat.le_refl _)
  exact ⟨.ref s1.heap.objs.size, _, I1.laid (t' := s1.toks) (fun b u e => Heap.get?_push_of_some _ e) (Nat.le_refl _) (okT z r (Heap.get?_push_size _ rfl)), rfl, q _ _ hf rfl⟩
theorem call_tupleB : CallR X (.type "tuple") (fun xs H Q => ∃ p ys, xs = [.ref p] ∧ ((SqL X.K H p ys ∧ ∀ l o, H l = none → o.dict = none → Q (.ref l) (upd H l (.frz o (.tup ys)))) ∨ (SqT X.K H p ys ∧ Q (.ref p) H))) := by
  intro pins s σ H xs us Q I r h
  obtain ⟨p, ys, rfl, h⟩ := h
  obtain ⟨u, rfl, rx⟩ := vals1 r
  cases rx
  rcases h with ⟨hq, q⟩ | ⟨hq, q⟩
  · obtain ⟨its, r', pl, hz⟩ := I.list hq
    have hlen := r'.length
    refine call_tuple_list pl.isList (fun h' kp => ?_) (by simp only [List.size_toArray] <;> omega)
    have I1 : Inv X pins σ H { s with heap := h' } := I.kept (t' := s.toks) kp
    have I2 : Inv X pins σ (upd H h'.objs.size (.frz (newT its.toArray) (.tup ys))) { s with heap := h'.push (newT its.toArray) } :=
      I1.laid (t' := s.toks) (fun b o e => Heap.get?_push_of_some _ e) (Nat.le_refl _) (okT hz r' (Heap.get?_push_size _ rfl))
    exact ⟨.ref h'.objs.size, _, I2, rfl, q _ _ (I1.hok.fresh (Nat.le_refl _)) rfl⟩
  · obtain ⟨its, r', pl, hz⟩ := I.tuple hq
    exact call_tuple_same pl ⟨.ref p, H, I, rfl, q⟩
def rCatB (K : PySem.W.Frag) : R2 := fun x y H Q => ∃ a b xs ys, x = .ref a ∧ y = .ref b ∧ SqT K H a xs ∧ SqT K H b ys ∧ xs.length + ys.length ≤ sizeLine ∧
  (xs = [] → Q (.ref b) H) ∧ (xs ≠ [] → ys = [] → Q (.ref a) H) ∧ (xs ≠ [] → ys ≠ [] → ∀ p o, H p = none → o.dict = none → Q (.ref p) (upd H p (.frz o (.tup (xs ++ ys)))))
theorem op_catB : OpR X (binaryOp .Add) (rCatB X.K) := by
  intro pins s σ H x y v u Q I rx ry h
  obtain ⟨a, b, xs, ys, rfl, rfl, ha, hb, hz, q0, q1, q2⟩ := h
  cases rx
  cases ry
  obtain ⟨its, r1, p1, _⟩ := I.tuple ha
  obtain ⟨its2, r2, p2, _⟩ := I.tuple hb
  by_cases hx : xs = []
  · subst hx
    cases r1
    exact cat_tup0 p1 p2 ⟨.ref b, H, I, rfl, q0 rfl⟩
  · refine HT.cat_tup p1 p2 (fun z => hx (r1.nil_iff.mp z)) (fun z => ⟨.ref a, H, I, rfl, q1 hx (r2.nil_iff.mp z)⟩) (fun z => ?_) (by rw [← r1.length, ← r2.length]; exact hz)
    exact ⟨.ref s.heap.objs.size, _, I.laid (t' := s.toks) (fun b ob q => Heap.get?_push_of_some _ q) (Nat.le_refl _) (okT (by rw [List.length_append]; exact hz) (r1.append r2) (Heap.get?_push_size _ rfl)), rfl, q2 hx (fun w => z (r2.nil_iff.mpr w)) _ _ (I.hok.fresh (Nat.le_refl _)) rfl⟩
def rSlB (K : PySem.W.Frag) : V → Option Int → Option Int → Hp → VK → Prop := fun x lo hi H Q => ∃ a xs, x = .ref a ∧ SqT K H a xs ∧
  (HT.sIx xs.length 0 lo = 0 ∧ HT.sIx xs.length xs.length hi = xs.length → Q (.ref a) H) ∧ (¬ (HT.sIx xs.length 0 lo = 0 ∧ HT.sIx xs.length xs.length hi = xs.length) → ∀ p o, H p = none → o.dict = none → Q (.ref p) (upd H p (.frz o (.tup (cutV xs lo hi)))))
theorem sl_tupB : SlR X (rSlB X.K) := by
  intro pins s σ H x v vl vu lo hi sl Q I rx hs pl pu h
  obtain ⟨a, xs, rfl, hx, q1, q2⟩ := h
  cases rx
  obtain ⟨its, r, ht, hz⟩ := I.tuple hx
  have hlen : its.toArray.size = xs.length := by rw [List.size_toArray]; exact r.length.symm
  by_cases hw : HT.sIx xs.length 0 lo = 0 ∧ HT.sIx xs.length xs.length hi = xs.length
  · refine ⟨"tuple", _, PyProof.Rows.slot_tuple_getitem.lookup, ht.typeIs, ?_⟩
    exact getItem_tuple_whole ht hs pl pu (by rw [hlen]; exact hw) ⟨.ref a, H, I, rfl, q1 hw⟩
  · refine ⟨"tuple", _, PyProof.Rows.slot_tuple_getitem.lookup, ht.typeIs, ?_⟩
    refine HT.getItem_tuple_cut ht hs pl pu (by rw [hlen]; exact hw) ?_ (by rw [hlen]; exact hz)
    rw [hlen]
    refine ⟨.ref s.heap.objs.size, _, I.laid (t' := s.toks) (fun b ob q => Heap.get?_push_of_some _ q) (Nat.le_refl _) (okT (xs := cutV xs lo hi) ?_ ((r.drop (HT.sIx xs.length 0 lo)).take (HT.sIx xs.length xs.length hi - HT.sIx xs.length 0 lo)) (Heap.get?_push_size _ rfl)), rfl, q2 hw _ _ (I.hok.fresh (Nat.le_refl _)) rfl⟩
    exact Nat.le_trans (cutV_length xs lo hi) hz
def rRepB (K : PySem.W.Frag) : R2 := fun x y H Q => ∃ l k xs, x = .ref l ∧ y = .int k ∧ SqT K H l xs ∧ xs ≠ [] ∧ 2 ≤ k ∧ k ≤ 1000 ∧ xs.length ≤ 1000 ∧ ∀ p o, H p = none → o.dict = none → Q (.ref p) (upd H p (.frz o (.tup (List.replicate k.toNat xs).flatten)))
theorem op_repB : OpR X (binaryOp .Mult) (rRepB X.K) := by
  intro pins s σ H x y v u Q I rx ry h
  obtain ⟨l, k, xs, rfl, rfl, hT, hne, h1, h2, hz, q⟩ := h
  cases rx
  obtain ⟨t, rfl⟩ := ry
  obtain ⟨its, r, ⟨⟨cls, dd, data, sl⟩, ho, hc, n, hd⟩, hs⟩ := I.tuple hT
  simp only at hc hd
  subst hc hd
  have hle : its.length = xs.length := r.length.symm
  have hi : its.toArray.isEmpty = false := by
    cases its with
    | nil => exact absurd (List.eq_nil_of_length_eq_zero hle.symm) hne
    | cons a b => rfl
  have hsz0 : its.toArray.size = xs.length := by rw [List.size_toArray, hle]
  have hm : ((its.toArray.size : Nat) : Int) * k ≤ 1000000 := by
    rw [hsz0]
    have a1 : ((xs.length : Nat) : Int) * k ≤ 1000 * k := Int.mul_le_mul_of_nonneg_right (by omega) (by omega)
    omega
  have a1 : k.toNat * xs.length ≤ 1000 * 1000 := Nat.mul_le_mul (by omega) hz
  have flen : (List.replicate k.toNat its).flatten.length ≤ sizeLine := by
    rw [PyProof.Rows.lm_len_rep_flat, hle, sizeLine_eq]
    omega
  have c0 : (decide (k < -(2 ^ 63)) || decide (k ≥ 2 ^ 63)) = false := by
    rw [decide_eq_false (by omega), decide_eq_false (by omega)] <;> rfl
  have c1 : (its.toArray.isEmpty || k == 1) = false := by
    rw [hi, Bool.false_or]
    exact beq_eq_false_iff_ne.mpr (by omega)
  have c2 : (decide (k ≤ 0) || its.toArray.isEmpty) = false := by
    rw [hi, Bool.or_false]
    exact decide_eq_false (by omega)
  have c4 : Builtin.Tuple.tupleTooMany (((its.toArray.size : Nat) : Int) * k) = false := by
    unfold Builtin.Tuple.tupleTooMany
    rw [sizeLine_eq]
    exact decide_eq_false (by omega)
  refine wpAny_binaryOp_repeat_ref (T := "tuple") (U := "int") (by decide) ⟨_, ho, rfl⟩ (fun s' => typeIs_int s' k t) noFill_tuple_mul F.fills_int_mul F.slot_int_rmul repeat_tuple F.slot_int_index.lookup
    (call_meets F.slot_int_rmul (typeIs_int s k t) F.entry_int_rmul (F.args_int_rmul_2 _ _) (int_rmul_tuple k t l its.toArray n dd sl)
      ⟨ho, rfl, ⟨_, ho, rfl⟩, call_meets F.slot_tuple_mul ⟨_, ho, rfl⟩ F.entry_tuple_mul (F.args_tuple_mul_2 _ _) (tuple_mulW l its.toArray n dd sl k t c0 c1 c2 (by omega) c4 (by rw [size_rep, List.size_toArray]; exact flen)) ⟨ho, ?_⟩⟩)
  rw [size_rep]
  exact ⟨.ref s.heap.objs.size, _, I.laid (t' := s.toks) (fun b ob q => Heap.get?_push_of_some _ q) (Nat.le_refl _) (okT (xs := (List.replicate k.toNat xs).flatten) (by rw [PyProof.Rows.lm_len_rep_flat, sizeLine_eq]; omega) (r.rep k.toNat) (Heap.get?_push_size _ rfl)), rfl, q _ _ (I.hok.fresh (Nat.le_refl _)) rfl⟩
end
end G
end
section
set_option Elab.async false
set_option linter.all false
set_option maxRecDepth 100000
set_option maxHeartbeats 1000000
/-! What stands for what: data and the abstract heap. -/
namespace G
open PySem PySem.Spec PyProof.Rows L2

abbrev sS (s : List Nat) : Str := ⟨s.toArray⟩

/-- what stays the same through the whole law: the written part, the classes of exceptions, the module's constants, the tables -/
structure Mw where
  P : Program
  w : World
  K : PySem.W.Frag
  ec : Nat → Addr
  gl : Nat → D
  T : List (Addr × Str)

/-- what is known of the heap: the part that stands for ever, the dice's list, the book -/
structure Gh where
  F : Hp
  da : Addr
  ba : Addr

/-- its object has no dict -/
def Br (K : PySem.W.Frag) (F : Hp) (a : Addr) : Prop := (∃ o u, F a = some (.frz o u) ∧ o.dict = none) ∨ ∃ o, K.lookup a = some o ∧ o.dict = none
/-- a tuple without a dict -/
def SqB (K : PySem.W.Frag) (F : Hp) (a : Addr) (vs : List V) : Prop := SqT K F a vs ∧ Br K F a
theorem sqB_new {K : PySem.W.Frag} {F : Hp} {a : Addr} {o : Obj} {vs : List V} (e : F a = some (.frz o (.tup vs))) (h : o.dict = none) : SqB K F a vs := ⟨.inl (.inr ⟨o, e⟩), .inl ⟨o, _, e, h⟩⟩
mutual
def Rep (K : PySem.W.Frag) (F : Hp) : D → V → Prop
  | .non, v => v = .non
  | .bl b, v => v = .bl b
  | .int i, v => v = .int i
  | .str s, v => v = .str (sS s)
  | .tup ds, v => ∃ a vs, v = .ref a ∧ SqB K F a vs ∧ Reps K F ds vs
  | .lst ds, v => ∃ a vs, v = .ref a ∧ F a = some (.lst vs) ∧ Reps K F ds vs
def Reps (K : PySem.W.Frag) (F : Hp) : List D → List V → Prop
  | [], vs => vs = []
  | d :: ds, vs => ∃ v r, vs = v :: r ∧ Rep K F d v ∧ Reps K F ds r
end

/-- a dict's entries: keys that are ints -/
def RepK (K : PySem.W.Frag) (F : Hp) : List (Int × D) → List (Key × V) → Prop
  | [], kv => kv = []
  | (i, d) :: r, kv => ∃ v t, kv = (.inl i, v) :: t ∧ Rep K F d v ∧ RepK K F r t
def intsOf : List D → List Key → Prop
  | [], ks => ks = []
  | d :: ds, ks => ∃ i r, d = .int i ∧ ks = .inl i :: r ∧ intsOf ds r
/-- a dict whose keys are tuples, by what its one object holds -/
def DX (P : Program) (w : World) (a : Addr) (xs : List (List Key × Addr × Value)) : HO := .ext fun h => xs.length ≤ sizeLine ∧ (a == sysModules) = false ∧
  ∃ o es ep, h.get? a = some o ∧ o.ExactDict ∧ o.data = .dict es ep ∧ es.toList = xs.map (entryOfKey (tupleKind (mixKind P w))) ∧ (xs.map (·.1)).Nodup
/-- keys that are tuples of ints -/
def RepT (K : PySem.W.Frag) (F : Hp) : List (D × D) → List (List Key × Addr × Value) → Prop
  | [], xs => xs = []
  | (k, d) :: r, xs => ∃ is ks b v u t, k = .tup is ∧ intsOf is ks ∧ xs = (ks, b, u) :: t ∧ SqB K F b (ks.map kV) ∧ Rep K F d v ∧ RelV v u ∧ (∀ x ∈ t, x.1 ≠ ks) ∧ RepT K F r t

def RepW (M : Mw) (g : Gh) : W → V → Prop
  | .d d, v => Rep M.K g.F d v
  | .dct kvs, v => ∃ a o xs, v = .ref a ∧ g.F a = some (.frz o (DX M.P M.w a xs)) ∧ RepT M.K g.F kvs xs
  | .dci kvs, v => ∃ a kv, v = .ref a ∧ g.F a = some (.dK kv) ∧ RepK M.K g.F kvs kv
  | .dice, v => v = .ref g.da
  | .book, v => v = .ref g.ba
  | .exc _, _ => False
def RepWs (M : Mw) (g : Gh) : List W → List V → Prop
  | [], vs => vs = []
  | w :: ws, vs => ∃ v r, vs = v :: r ∧ RepW M g w v ∧ RepWs M g ws r

/-- F grows -/
def Sub (F F' : Hp) : Prop := ∀ a o, F a = some o → F' a = some o
theorem Sub.refl (F : Hp) : Sub F F := fun _ _ h => h
theorem Sub.trans {F F1 F2 : Hp} (h : Sub F F1) (k : Sub F1 F2) : Sub F F2 := fun a o e => k a o (h a o e)
theorem Sub.rd {F F' : Hp} (s : Sub F F') {a : Addr} {u : HO} (h : Rd F a u) : Rd F' a u := by
  rcases h with h | ⟨o, h⟩
  · exact .inl (s _ _ h)
  · exact .inr ⟨o, s _ _ h⟩
theorem Sub.sqT {K : PySem.W.Frag} {F F' : Hp} (s : Sub F F') {a : Addr} {vs : List V} (h : SqT K F a vs) : SqT K F' a vs := by
  rcases h with h | h
  · exact .inl (s.rd h)
  · exact .inr h
theorem Sub.sqB {K : PySem.W.Frag} {F F' : Hp} (s : Sub F F') {a : Addr} {vs : List V} (h : SqB K F a vs) : SqB K F' a vs := by
  refine ⟨s.sqT h.1, ?_⟩
  rcases h.2 with ⟨o, u, e, d⟩ | h
  · exact .inl ⟨o, u, s _ _ e, d⟩
  · exact .inr h
mutual
theorem Rep.mono {K : PySem.W.Frag} {F F' : Hp} (s : Sub F F') : ∀ (d : D) {v : V}, Rep K F d v → Rep K F' d v
  | .non, _, h => h
  | .bl _, _, h => h
  | .int _, _, h => h
  | .str _, _, h => h
  | .tup ds, _, h => let ⟨a, vs, e, q, r⟩ := h; ⟨a, vs, e, s.sqB q, Reps.mono s ds r⟩
  | .lst ds, _, h => let ⟨a, vs, e, q, r⟩ := h; ⟨a, vs, e, s _ _ q, Reps.mono s ds r⟩
theorem Reps.mono {K : PySem.W.Frag} {F F' : Hp} (s : Sub F F') : ∀ (ds : List D) {vs : List V}, Reps K F ds vs → Reps K F' ds vs
  | [], _, h => h
  | d :: ds, _, h => let ⟨v, r, e, q, t⟩ := h; ⟨v, r, e, Rep.mono s d q, Reps.mono s ds t⟩
end
theorem RepK.mono {K : PySem.W.Frag} {F F' : Hp} (s : Sub F F') : ∀ (kvs : List (Int × D)) {kv : List (Key × V)}, RepK K F kvs kv → RepK K F' kvs kv
  | [], _, h => h
  | (_, d) :: r, _, h => let ⟨v, t, e2, q, u⟩ := h; ⟨v, t, e2, Rep.mono s d q, RepK.mono s r u⟩
theorem RepT.mono {K : PySem.W.Frag} {F F' : Hp} (s : Sub F F') : ∀ (kvs : List (D × D)) {xs : List (List Key × Addr × Value)}, RepT K F kvs xs → RepT K F' kvs xs
  | [], _, h => h
  | (_, d) :: r, _, h => let ⟨is, ks, b, v, u, t, e1, e2, e3, e4, q, e5, nn, z⟩ := h; ⟨is, ks, b, v, u, t, e1, e2, e3, s.sqB e4, Rep.mono s d q, e5, nn, RepT.mono s r z⟩

theorem Reps.length {K : PySem.W.Frag} {F : Hp} : ∀ {ds : List D} {vs : List V}, Reps K F ds vs → vs.length = ds.length
  | [], _, h => by rw [show _ = [] from h]; rfl
  | _ :: ds, _, h => by
    obtain ⟨v, r, rfl, _, t⟩ := h
    rw [List.length_cons, List.length_cons, Reps.length t]
theorem Reps.app {K : PySem.W.Frag} {F : Hp} : ∀ {ds es : List D} {vs us : List V}, Reps K F ds vs → Reps K F es us → Reps K F (ds ++ es) (vs ++ us)
  | [], _, _, _, h, k => by rw [show _ = [] from h]; exact k
  | _ :: ds, _, _, _, h, k => by
    obtain ⟨v, r, rfl, q, t⟩ := h
    exact ⟨v, r ++ _, rfl, q, Reps.app t k⟩
theorem Reps.get {K : PySem.W.Frag} {F : Hp} : ∀ {ds : List D} {vs : List V} {i : Nat} {d : D}, Reps K F ds vs → ds[i]? = some d → ∃ v, vs[i]? = some v ∧ Rep K F d v
  | [], _, _, _, _, e => by simp at e
  | x :: ds, _, 0, d, h, e => by
    obtain ⟨v, r, rfl, q, t⟩ := h
    have e' : x = d := by simpa using e
    subst e'
    exact ⟨v, rfl, q⟩
  | x :: ds, _, i + 1, d, h, e => by
    obtain ⟨v, r, rfl, q, t⟩ := h
    obtain ⟨u, h1, h2⟩ := Reps.get (i := i) t (by simpa using e)
    exact ⟨u, by simpa using h1, h2⟩
theorem Reps.getV {K : PySem.W.Frag} {F : Hp} {ds : List D} {vs : List V} {i : Nat} {v : V} (h : Reps K F ds vs) (e : vs[i]? = some v) : ∃ d, ds[i]? = some d ∧ Rep K F d v := by
  have hl := h.length
  have hi : i < ds.length := by
    have := (List.getElem?_eq_some_iff.mp e).1
    omega
  obtain ⟨u, h1, h2⟩ := h.get (i := i) (d := ds[i]) (by simp [hi])
  rw [h1] at e
  cases e
  exact ⟨ds[i], by simp [hi], h2⟩
theorem Reps.take {K : PySem.W.Frag} {F : Hp} : ∀ (n : Nat) {ds : List D} {vs : List V}, Reps K F ds vs → Reps K F (ds.take n) (vs.take n)
  | 0, _, _, _ => rfl
  | n + 1, [], _, h => by rw [show _ = [] from h]; rfl
  | n + 1, d :: ds, _, h => by
    obtain ⟨v, r, rfl, q, t⟩ := h
    exact ⟨v, _, rfl, q, Reps.take n t⟩
theorem Reps.drop {K : PySem.W.Frag} {F : Hp} : ∀ (n : Nat) {ds : List D} {vs : List V}, Reps K F ds vs → Reps K F (ds.drop n) (vs.drop n)
  | 0, _, _, h => h
  | n + 1, [], _, h => by rw [show _ = [] from h]; rfl
  | n + 1, d :: ds, _, h => by
    obtain ⟨v, r, rfl, q, t⟩ := h
    exact Reps.drop n t
theorem Reps.rev {K : PySem.W.Frag} {F : Hp} : ∀ {ds : List D} {vs : List V}, Reps K F ds vs → Reps K F ds.reverse vs.reverse
  | [], _, h => by rw [show _ = [] from h]; rfl
  | d :: ds, _, h => by
    obtain ⟨v, r, rfl, q, t⟩ := h
    rw [List.reverse_cons, List.reverse_cons]
    exact (Reps.rev t).app ⟨v, [], rfl, q, rfl⟩
theorem Reps.set {K : PySem.W.Frag} {F : Hp} {d : D} {v : V} (q : Rep K F d v) : ∀ {ds : List D} {vs : List V} (j : Nat), Reps K F ds vs → Reps K F (ds.set j d) (vs.set j v)
  | [], _, _, h => by rw [show _ = [] from h]; rfl
  | _ :: ds, _, 0, h => by
    obtain ⟨u, r, rfl, _, t⟩ := h
    exact ⟨v, r, rfl, q, t⟩
  | _ :: ds, _, j + 1, h => by
    obtain ⟨u, r, rfl, q', t⟩ := h
    exact ⟨u, _, rfl, q', Reps.set q j t⟩
theorem Reps.snoc {K : PySem.W.Frag} {F : Hp} {ds : List D} {vs : List V} {d : D} {v : V} (h : Reps K F ds vs) (q : Rep K F d v) : Reps K F (ds ++ [d]) (vs ++ [v]) := h.app ⟨v, [], rfl, q, rfl⟩
theorem Reps.flat {K : PySem.W.Frag} {F : Hp} {ds : List D} {vs : List V} (h : Reps K F ds vs) : ∀ n : Nat, Reps K F (rep n ds) (List.replicate n vs).flatten
  | 0 => rfl
  | n + 1 => by
    have e : rep (n + 1) ds = ds ++ rep n ds := by simp [rep, List.replicate_succ]
    rw [e, List.replicate_succ, List.flatten_cons]
    exact h.app (Reps.flat h n)
theorem RepWs.length {M : Mw} {g : Gh} : ∀ {ws : List W} {vs : List V}, RepWs M g ws vs → vs.length = ws.length
  | [], _, h => by rw [show _ = [] from h]; rfl
  | _ :: ws, _, h => by
    obtain ⟨v, r, rfl, _, t⟩ := h
    rw [List.length_cons, List.length_cons, RepWs.length t]

/-! ### the state beside the frames -/
structure WOk (M : Mw) (g : Gh) (H : Hp) (s : Sto) : Prop where
  sub : Sub g.F H
  dan : H g.da ≠ none
  ban : H g.ba ≠ none
  dice : ∀ c m, s.dice = some (c, m) → H g.da = some (.lst [.int c, .int m]) ∧ g.F g.da = none
  book : s.book = none
  tabs : LamX.Tabs M.T H
  ntab : ∀ q ∈ M.T, g.F q.1 = none
structure Le (g : Gh) (H : Hp) (g' : Gh) (H' : Hp) : Prop where
  fr : Sub g.F g'.F
  new : ∀ a o, g'.F a = some o → g.F a = some o ∨ H a = none
  keep : ∀ a o, H a = some o → a ≠ g.da → a ≠ g.ba → (∀ ps, o ≠ .tbl ps) → H' a = some o
  there : ∀ a, H a ≠ none → H' a ≠ none
  da : g'.da = g.da
  ba : g'.ba = g.ba
theorem Le.refl (g : Gh) (H : Hp) : Le g H g H := ⟨Sub.refl _, fun _ _ h => .inl h, fun _ _ h _ _ _ => h, fun _ h => h, rfl, rfl⟩
theorem Le.trans {g g1 g2 : Gh} {H H1 H2 : Hp} (a : Le g H g1 H1) (b : Le g1 H1 g2 H2) : Le g H g2 H2 where
  fr := a.fr.trans b.fr
  new := fun x o h => by
    rcases b.new x o h with h | h
    · exact a.new x o h
    · refine .inr ?_
      cases e : H x with
      | none => rfl
      | some u => exact absurd h (a.there x (by rw [e]; simp))
  keep := fun x o h1 h2 h3 h4 => b.keep x o (a.keep x o h1 h2 h3 h4) (by rw [a.da]; exact h2) (by rw [a.ba]; exact h3) h4
  there := fun x h => b.there x (a.there x h)
  da := b.da.trans a.da
  ba := b.ba.trans a.ba
theorem Le.free_ {g g' : Gh} {H H' : Hp} (l : Le g H g' H') {p : Addr} (h : H' p = none) : H p = none := by
  cases e : H p with
  | none => rfl
  | some u => exact absurd h (l.there p (by rw [e]; simp))
theorem RepW.mono {M : Mw} {g g' : Gh} {H H' : Hp} (l : Le g H g' H') : ∀ {w : W} {v : V}, RepW M g w v → RepW M g' w v
  | .d d, _, h => Rep.mono l.fr d h
  | .dct kvs, _, h => by
    obtain ⟨a, o, xs, e, q1, q2⟩ := h
    exact ⟨a, o, xs, e, l.fr _ _ q1, q2.mono l.fr⟩
  | .dci kvs, _, h => by
    obtain ⟨a, kv, e, q1, q2⟩ := h
    exact ⟨a, kv, e, l.fr _ _ q1, q2.mono l.fr⟩
  | .dice, _, h => by
    rw [show _ = V.ref g.da from h]
    exact congrArg V.ref l.da.symm
  | .book, _, h => by
    rw [show _ = V.ref g.ba from h]
    exact congrArg V.ref l.ba.symm
  | .exc _, _, h => h
theorem RepWs.mono {M : Mw} {g g' : Gh} {H H' : Hp} (l : Le g H g' H') : ∀ {ws : List W} {vs : List V}, RepWs M g ws vs → RepWs M g' ws vs
  | [], _, h => h
  | _ :: _, _, h => let ⟨v, r, e, q, t⟩ := h; ⟨v, r, e, q.mono l, RepWs.mono l t⟩

/-- a new object that stands for ever -/
abbrev Gh.add (g : Gh) (p : Addr) (o : HO) : Gh := { g with F := upd g.F p o }
section
variable {M : Mw} {g : Gh} {H : Hp} {s : Sto} {p : Addr} {o : HO}
theorem WOk.free (w : WOk M g H s) (h : H p = none) : g.F p = none := by
  cases e : g.F p with
  | none => rfl
  | some u => rw [w.sub _ _ e] at h; cases h
theorem Sub.upd {F : Hp} (h : F p = none) : Sub F (L2.upd F p o) := fun a u e => by
  rw [upd_ne (ne_of_none e h)]; exact e
theorem Le.alloc (w : WOk M g H s) (h : H p = none) : Le g H (g.add p o) (upd H p o) where
  fr := Sub.upd (w.free h)
  new := fun a u e => by
    by_cases ha : a = p
    · subst ha; exact .inr h
    · exact .inl (by rw [show (g.add p o).F = upd g.F p o from rfl, upd_ne ha] at e; exact e)
  keep := fun a u e _ _ _ => by rw [upd_ne (ne_of_none e h)]; exact e
  there := fun a e => by
    by_cases ha : a = p
    · subst ha; rw [upd_same]; simp
    · rw [upd_ne ha]; exact e
  da := rfl
  ba := rfl
/-- new, but not for ever -/
theorem Le.fresh (h : H p = none) : Le g H g (upd H p o) where
  fr := Sub.refl _
  new := fun a u e => .inl e
  keep := fun a u e _ _ _ => by rw [upd_ne (ne_of_none e h)]; exact e
  there := fun a e => by
    by_cases ha : a = p
    · subst ha; rw [upd_same]; simp
    · rw [upd_ne ha]; exact e
  da := rfl
  ba := rfl
theorem WOk.fresh (w : WOk M g H s) (h : H p = none) : WOk M g (upd H p o) s where
  sub := fun a u e => by rw [upd_ne (ne_of_none (w.sub _ _ e) h)]; exact w.sub _ _ e
  dan := (Le.fresh (g := g) h).there _ w.dan
  ban := (Le.fresh (g := g) h).there _ w.ban
  dice := fun c m e => by
    obtain ⟨h1, h2⟩ := w.dice c m e
    exact ⟨by rw [upd_ne (ne_of_none h1 h)]; exact h1, h2⟩
  book := w.book
  tabs := w.tabs.ext fun b u e => by rw [upd_ne (ne_of_none e h)]; exact e
  ntab := w.ntab
theorem WOk.alloc (w : WOk M g H s) (h : H p = none) : WOk M (g.add p o) (upd H p o) s where
  sub := fun a u e => by
    by_cases ha : a = p
    · subst ha
      rw [show (g.add a o).F = upd g.F a o from rfl, upd_same] at e
      rw [upd_same]; exact e
    · rw [show (g.add p o).F = upd g.F p o from rfl, upd_ne ha] at e
      rw [upd_ne ha]; exact w.sub _ _ e
  dan := (Le.fresh (g := g) h).there _ w.dan
  ban := (Le.fresh (g := g) h).there _ w.ban
  dice := fun c m e => by
    obtain ⟨h1, h2⟩ := w.dice c m e
    exact ⟨by rw [upd_ne (ne_of_none h1 h)]; exact h1, by
      have hp : g.da ≠ p := ne_of_none h1 h
      show upd g.F p o g.da = none
      rw [upd_ne hp]; exact h2⟩
  book := w.book
  tabs := w.tabs.ext fun b u e => by rw [upd_ne (ne_of_none e h)]; exact e
  ntab := fun q hq => by
    obtain ⟨ps, e, _⟩ := w.tabs q hq
    show upd g.F p o q.1 = none
    rw [upd_ne (ne_of_none e h)]
    exact w.ntab q hq
/-- what stands in H (and is no one's) stands from now on for ever -/
theorem WOk.freeze (w : WOk M g H s) (h : H p = some o) (hd : p ≠ g.da) (ht : ∀ ps, o ≠ .tbl ps := by intro ps z; cases z) : WOk M (g.add p o) H s where
  sub := fun a u e => by
    by_cases ha : a = p
    · subst ha
      rw [show (g.add a o).F = upd g.F a o from rfl, upd_same] at e
      cases e; exact h
    · rw [show (g.add p o).F = upd g.F p o from rfl, upd_ne ha] at e
      exact w.sub _ _ e
  dan := w.dan
  ban := w.ban
  dice := fun c m e => by
    obtain ⟨h1, h2⟩ := w.dice c m e
    exact ⟨h1, by show upd g.F p o g.da = none; rw [upd_ne (Ne.symm hd)]; exact h2⟩
  book := w.book
  tabs := w.tabs
  ntab := fun q hq => by
    obtain ⟨ps, e, _⟩ := w.tabs q hq
    have : q.1 ≠ p := fun z => by
      rw [z, h] at e
      exact ht ps (Option.some.inj e)
    show upd g.F p o q.1 = none
    rw [upd_ne this]
    exact w.ntab q hq
end

/-! ### the slots of a frame -/
def isOwn : Option Slot → Bool
  | some (.own _) => true
  | some (.ownd _) => true
  | _ => false
structure SOk (M : Mw) (g : Gh) (H0 H : Hp) (σ : L2.St) (δ : Env) : Prop where
  len : δ.length = σ.length
  w : ∀ (i : Nat) (w : W), δ[i]? = some (.w w) → ∃ v, σ[i]? = some (some v) ∧ RepW M g w v
  own : ∀ (i : Nat) (ds : List D), δ[i]? = some (.own ds) → ∃ a vs, σ[i]? = some (some (V.ref a)) ∧ H a = some (.lst vs) ∧ g.F a = none ∧ H0 a = none ∧ a ≠ g.da ∧ a ≠ g.ba ∧ Reps M.K g.F ds vs
  ownd : ∀ (i : Nat) (kvs : List (D × D)), δ[i]? = some (.ownd kvs) → ∃ a xs, σ[i]? = some (some (V.ref a)) ∧ H a = some (DX M.P M.w a xs) ∧ g.F a = none ∧ H0 a = none ∧ a ≠ g.da ∧ a ≠ g.ba ∧ RepT M.K g.F kvs xs
  apart : ∀ (i j : Nat) (a : Addr), i ≠ j → isOwn δ[i]? = true → isOwn δ[j]? = true → σ[i]? = some (some (V.ref a)) → σ[j]? ≠ some (some (V.ref a))
theorem not_tbl_lst {vs : List V} : ∀ ps, HO.lst vs ≠ .tbl ps := fun _ h => by cases h
theorem not_tbl_dT {P : Program} {w : World} {a : Addr} {xs : List (List Key × Addr × Value)} : ∀ ps, DX P w a xs ≠ .tbl ps := fun _ h => by cases h
theorem SOk.later {M : Mw} {g g' : Gh} {H0 H H' : Hp} {σ : L2.St} {δ : Env} (h : SOk M g H0 H σ δ) (l : Le g H g' H') : SOk M g' H0 H' σ δ where
  len := h.len
  w := fun i w e => let ⟨v, h1, h2⟩ := h.w i w e; ⟨v, h1, h2.mono l⟩
  own := fun i ds e => by
    obtain ⟨a, vs, h1, h2, h3, h4, h5, h6, h7⟩ := h.own i ds e
    refine ⟨a, vs, h1, l.keep a _ h2 h5 h6 not_tbl_lst, ?_, h4, by rw [l.da]; exact h5, by rw [l.ba]; exact h6, h7.mono l.fr⟩
    cases q : g'.F a with
    | none => rfl
    | some u =>
      rcases l.new a u q with z | z
      · rw [h3] at z; cases z
      · rw [h2] at z; cases z
  ownd := fun i ds e => by
    obtain ⟨a, vs, h1, h2, h3, h4, h5, h6, h7⟩ := h.ownd i ds e
    refine ⟨a, vs, h1, l.keep a _ h2 h5 h6 not_tbl_dT, ?_, h4, by rw [l.da]; exact h5, by rw [l.ba]; exact h6, h7.mono l.fr⟩
    cases q : g'.F a with
    | none => rfl
    | some u =>
      rcases l.new a u q with z | z
      · rw [h3] at z; cases z
      · rw [h2] at z; cases z
  apart := h.apart

/-! ### what is wanted of a result -/
def PostG {α β : Type} (M : Mw) (E : XK) (Rel : Gh → Hp → α → β → Prop) (r : Res α) (g : Gh) (H : Hp) (Q : β → Hp → Prop) : Prop := match r with
  | .ok a s => ∀ b g' H', Le g H g' H' → WOk M g' H' s → Rel g' H' a b → Q b H'
  | .exc c s => ∀ g' H', Le g H g' H' → WOk M g' H' s → E (.ref (M.ec c)) none H'
  | .bad => False
section
variable {α β γ κ : Type} {M : Mw} {E : XK} {Rel : Gh → Hp → α → β → Prop} {Rel2 : Gh → Hp → γ → κ → Prop} {r : Res α} {g g' : Gh} {H H' : Hp} {Q Q' : β → Hp → Prop}
theorem PostG.later (h : PostG M E Rel r g H Q) (l : Le g H g' H') : PostG M E Rel r g' H' Q := by
  cases r with
  | ok a s => exact fun b g2 H2 l2 w q => h b g2 H2 (l.trans l2) w q
  | exc c s => exact fun g2 H2 l2 w => h g2 H2 (l.trans l2) w
  | bad => exact h
theorem PostG.mono (h : PostG M E Rel r g H Q) (k : ∀ b H, Q b H → Q' b H) : PostG M E Rel r g H Q' := by
  cases r with
  | ok a s => exact fun b g2 H2 l2 w q => k _ _ (h b g2 H2 l2 w q)
  | exc c s => exact h
  | bad => exact h
theorem PostG.bind {f : α → Sto → Res γ} {Q2 : κ → Hp → Prop} (h : PostG M E Rel2 (r.bind f) g H Q2) :
    PostG M E Rel r g H (fun b H1 => ∃ g1 a s1, Le g H g1 H1 ∧ WOk M g1 H1 s1 ∧ Rel g1 H1 a b ∧ PostG M E Rel2 (f a s1) g1 H1 Q2) := by
  cases r with
  | ok a s => exact fun b g1 H1 l w q => ⟨g1, a, s, l, w, q, h.later l⟩
  | exc c s => exact h
  | bad => exact h
end
abbrev Post (M : Mw) (E : XK) (r : Res W) (g : Gh) (H : Hp) (Q : VK) : Prop := PostG M E (fun g _ => RepW M g) r g H Q
/-- a list that was just made -/
def PostF (M : Mw) (E : XK) (r : Res W) (g : Gh) (H : Hp) (Q : VK) : Prop := match r with
  | .ok (.d (.lst ds)) s => ∀ p vs g' H', Le g H g' H' → WOk M g' H' s → H p = none → g'.F p = none → H' p = some (.lst vs) → Reps M.K g'.F ds vs → Q (.ref p) H'
  | .ok _ _ => False
  | .exc c s => ∀ g' H', Le g H g' H' → WOk M g' H' s → E (.ref (M.ec c)) none H'
  | .bad => False
theorem ne_da {M : Mw} {g : Gh} {H : Hp} {s : Sto} {p : Addr} (w : WOk M g H s) (h : H p = none) : p ≠ g.da := fun e => w.dan (by rw [← e]; exact h)
theorem ne_ba {M : Mw} {g : Gh} {H : Hp} {s : Sto} {p : Addr} (w : WOk M g H s) (h : H p = none) : p ≠ g.ba := fun e => w.ban (by rw [← e]; exact h)
theorem Post.fresh {M : Mw} {E : XK} {r : Res W} {g : Gh} {H : Hp} {s0 : Sto} {Q : VK} (w0 : WOk M g H s0) (h : Post M E r g H Q) (hl : ∀ w s, r = .ok w s → ∃ ds, w = .d (.lst ds)) : PostF M E r g H Q := by
  cases r with
  | ok w s =>
    obtain ⟨ds, rfl⟩ := hl w s rfl
    refine fun p vs g' H' l w hp hF hv q => ?_
    have nd : p ≠ g'.da := by rw [l.da]; exact ne_da w0 hp
    refine h (.ref p) (g'.add p (.lst vs)) H' ⟨l.fr.trans (Sub.upd hF), fun a o e => ?_, l.keep, l.there, l.da, l.ba⟩ (w.freeze hv nd) ⟨p, vs, rfl, upd_same, q.mono (Sub.upd hF)⟩
    by_cases ha : a = p
    · subst ha; exact .inr hp
    · rw [show (g'.add p (.lst vs)).F = upd g'.F p (.lst vs) from rfl, upd_ne ha] at e
      exact l.new a o e
  | exc c s => exact h
  | bad => exact h

/-! ### the readings -/
def tC (M : Mw) (Φ : Nat → Option Fn) (c : C) (E : XK) : TE := fun σ H Q => ∃ g H0 δ s, WOk M g H s ∧ SOk M g H0 H σ δ ∧ Post M E (evC M.gl Φ c δ s) g H Q
def tF (M : Mw) (Φ : Nat → Option Fn) (c : C) (E : XK) : TE := fun σ H Q => ∃ g H0 δ s, WOk M g H s ∧ SOk M g H0 H σ δ ∧ PostF M E (evC M.gl Φ c δ s) g H Q
/-- as a test -/
def tT (M : Mw) (Φ : Nat → Option Fn) (c : C) (E : XK) : TT := fun σ H Q => ∃ g H0 δ s, WOk M g H s ∧ SOk M g H0 H σ δ ∧
  PostG M E (fun _ _ (w : W) (b : Bool) => truth w = some b) ((evC M.gl Φ c δ s).bind fun w s => if (truth w).isSome then .ok w s else .bad) g H Q
def tWs (M : Mw) (Φ : Nat → Option Fn) (cs : Cs) (E : XK) : TA := fun σ H Q => ∃ g H0 δ s, WOk M g H s ∧ SOk M g H0 H σ δ ∧ PostG M E (fun g _ => RepWs M g) (evWs M.gl Φ cs δ s) g H Q
theorem _root_.L2.PE.imp {X : Cx} {e : Expr} {t t' : TE} (h : PE X e t) (k : ∀ σ H Q, t' σ H Q → t σ H Q) : PE X e t' := ⟨fun pins s σ H Q I q => h.run pins s σ H Q I (k σ H Q q)⟩
theorem _root_.L2.PT.imp {X : Cx} {e : Expr} {t t' : TT} (h : PT X e t) (k : ∀ σ H Q, t' σ H Q → t σ H Q) : PT X e t' := ⟨fun pins s σ H Q I q => h.run pins s σ H Q I (k σ H Q q)⟩
theorem _root_.L2.PA.imp {X : Cx} {e : List Expr} {t t' : TA} (h : PA X e t) (k : ∀ σ H Q, t' σ H Q → t σ H Q) : PA X e t' := ⟨fun pos pins s σ H Q I q => h.run pos pins s σ H Q I (k σ H Q q)⟩
theorem _root_.L2.PS.imp {X : Cx} {e : Stmt} {t t' : TS} (h : PS X e t) (k : ∀ D σ H, t' D σ H → t D σ H) : PS X e t' := ⟨fun pins s σ H D I q => h.run pins s σ H D I (k D σ H q)⟩
theorem _root_.L2.PSs.imp {X : Cx} {e : List Stmt} {t t' : TS} (h : PSs X e t) (k : ∀ D σ H, t' D σ H → t D σ H) : PSs X e t' := ⟨fun pins s σ H D I q => h.run pins s σ H D I (k D σ H q)⟩
/-- a read-only step from the left: one expression, then the rest -/
theorem tC.bind {α κ : Type} {M : Mw} {Φ : Nat → Option Fn} {c : C} {E : XK} {σ : L2.St} {H H0 : Hp} {g : Gh} {δ : Env} {s : Sto} {Rel2 : Gh → Hp → α → κ → Prop} {f : W → Sto → Res α} {Q2 : κ → Hp → Prop} {Q : VK}
    (w : WOk M g H s) (so : SOk M g H0 H σ δ) (h : PostG M E Rel2 ((evC M.gl Φ c δ s).bind f) g H Q2)
    (k : ∀ v H1 g1 x s1, Le g H g1 H1 → WOk M g1 H1 s1 → SOk M g1 H0 H1 σ δ → RepW M g1 x v → PostG M E Rel2 (f x s1) g1 H1 Q2 → Q v H1) : tC M Φ c E σ H Q :=
  ⟨g, H0, δ, s, w, so, h.bind.mono fun v H1 ⟨g1, x, s1, l, w1, r1, q⟩ => k v H1 g1 x s1 l w1 (so.later l) r1 q⟩
end G
end
section
set_option Elab.async false
set_option linter.all false
set_option maxRecDepth 100000
set_option maxHeartbeats 1000000
namespace G
open PySem PySem.Spec PyProof.Rows L2
/-! ### read in passing -/
def RepP (M : Mw) (g : Gh) (H : Hp) : W → V → Prop
  | .d (.lst ds), v => Rep M.K g.F (.lst ds) v ∨ ∃ a vs, v = .ref a ∧ H a = some (.lst vs) ∧ a ≠ g.da ∧ a ≠ g.ba ∧ Reps M.K g.F ds vs
  | .dct kvs, v => RepW M g (.dct kvs) v ∨ ∃ a xs, v = .ref a ∧ H a = some (DX M.P M.w a xs) ∧ a ≠ g.da ∧ a ≠ g.ba ∧ RepT M.K g.F kvs xs
  | w, v => RepW M g w v
theorem RepP.of {M : Mw} {g : Gh} {H : Hp} {w : W} {v : V} (h : RepW M g w v) : RepP M g H w v := by
  cases w with
  | d d => cases d <;> first | exact h | exact .inl h
  | dct kvs => exact .inl h
  | dci kvs => exact h
  | dice => exact h
  | book => exact h
  | exc c => exact h
theorem RepP.mono {M : Mw} {g g' : Gh} {H H' : Hp} (l : Le g H g' H') {w : W} {v : V} (h : RepP M g H w v) : RepP M g' H' w v := by
  cases w with
  | d d =>
    cases d with
    | lst ds =>
      rcases h with h | ⟨a, vs, e, h1, h2, h3, h4⟩
      · exact .inl (RepW.mono (w := .d (.lst ds)) l h)
      · exact .inr ⟨a, vs, e, l.keep _ _ h1 h2 h3 not_tbl_lst, by rw [l.da]; exact h2, by rw [l.ba]; exact h3, h4.mono l.fr⟩
    | non => exact h
    | bl b => exact h
    | int i => exact h
    | str x => exact h
    | tup ds => exact RepW.mono (w := .d (.tup ds)) l h
  | dct kvs =>
    rcases h with h | ⟨a, kv, e, h1, h2, h3, h4⟩
    · exact .inl (h.mono l)
    · exact .inr ⟨a, kv, e, l.keep _ _ h1 h2 h3 not_tbl_dT, by rw [l.da]; exact h2, by rw [l.ba]; exact h3, h4.mono l.fr⟩
  | dci kvs => exact RepW.mono (w := .dci kvs) l h
  | dice => exact RepW.mono (M := M) (w := .dice) l h
  | book => exact RepW.mono (M := M) (w := .book) l h
  | exc c => exact h
abbrev PostP (M : Mw) (E : XK) (r : Res W) (g : Gh) (H : Hp) (Q : VK) : Prop := PostG M E (RepP M) r g H Q
def tP (M : Mw) (Φ : Nat → Option Fn) (c : C) (E : XK) : TE := fun σ H Q => ∃ g H0 δ s, WOk M g H s ∧ SOk M g H0 H σ δ ∧ PostP M E (peek c δ s (evC M.gl Φ c δ s)) g H Q
theorem tP.bind {α κ : Type} {M : Mw} {Φ : Nat → Option Fn} {c : C} {E : XK} {σ : L2.St} {H H0 : Hp} {g : Gh} {δ : Env} {s : Sto} {Rel2 : Gh → Hp → α → κ → Prop} {f : W → Sto → Res α} {Q2 : κ → Hp → Prop} {Q : VK}
    (w : WOk M g H s) (so : SOk M g H0 H σ δ) (h : PostG M E Rel2 ((peek c δ s (evC M.gl Φ c δ s)).bind f) g H Q2)
    (k : ∀ v H1 g1 x s1, Le g H g1 H1 → WOk M g1 H1 s1 → SOk M g1 H0 H1 σ δ → RepP M g1 H1 x v → PostG M E Rel2 (f x s1) g1 H1 Q2 → Q v H1) : tP M Φ c E σ H Q :=
  ⟨g, H0, δ, s, w, so, h.bind.mono fun v H1 ⟨g1, x, s1, l, w1, r1, q⟩ => k v H1 g1 x s1 l w1 (so.later l) r1 q⟩
theorem PostG.rel {α β : Type} {M : Mw} {E : XK} {Rel Rel' : Gh → Hp → α → β → Prop} {r : Res α} {g : Gh} {H : Hp} {Q : β → Hp → Prop} (h : PostG M E Rel' r g H Q) (k : ∀ g H a b, Rel g H a b → Rel' g H a b) : PostG M E Rel r g H Q := by
  cases r with
  | ok a s => exact fun b g1 H1 l w q => h b g1 H1 l w (k _ _ _ _ q)
  | exc c s => exact h
  | bad => exact h

section
variable {X : Cx} {M : Mw} {Φ : Nat → Option Fn} {E : XK} {a b c : Expr} {ca cb cc : C} {pos p : Pos}

/-- an answer that makes nothing -/
theorem Post.pure {d : D} {s : Sto} {g : Gh} {H : Hp} {Q : VK} {v : V} (w : WOk M g H s) (h : Post M E (pureR d s) g H Q) (r : Rep M.K g.F d v) : Q v H := h v g H (Le.refl g H) w r
theorem Post.bl {d : Bool} {s : Sto} {g : Gh} {H : Hp} {Q : VK} (w : WOk M g H s) (h : Post M E (blR d s) g H Q) : Q (.bl d) H := h _ g H (Le.refl g H) w rfl
/-- a new tuple, list -/
theorem Post.tup {ds : List D} {vs : List V} {s : Sto} {g : Gh} {H : Hp} {Q : VK} {q : Addr} {o : Obj} (w : WOk M g H s) (h : Post M E (pureR (.tup ds) s) g H Q) (r : Reps M.K g.F ds vs) (hp : H q = none) (ho : o.dict = none) : Q (.ref q) (upd H q (.frz o (.tup vs))) :=
  h _ (g.add q (.frz o (.tup vs))) _ (Le.alloc w hp) (w.alloc hp) ⟨q, vs, rfl, sqB_new upd_same ho, r.mono (Sub.upd (w.free hp))⟩
theorem Post.lst {ds : List D} {vs : List V} {s : Sto} {g : Gh} {H : Hp} {Q : VK} {q : Addr} (w : WOk M g H s) (h : Post M E (pureR (.lst ds) s) g H Q) (r : Reps M.K g.F ds vs) (hp : H q = none) : Q (.ref q) (upd H q (.lst vs)) :=
  h _ (g.add q (.lst vs)) _ (Le.alloc w hp) (w.alloc hp) ⟨q, vs, rfl, upd_same, r.mono (Sub.upd (w.free hp))⟩

/-! ### names, constants -/
theorem s_v {i : Nat} {x : Str} (hN : X.N[i]? = some x) (hv : Vis X.env.scope x) (hd : (x == ("__debug__" : Str)) = false) (hcd : (x == ("__classdict__" : Str)) = false) : PE X (.Name x pos) (tC M Φ (.v i) E) := by
  refine (pe_var (i := i) hN hv hd hcd).imp fun σ H Q ⟨g, H0, δ, s, w, so, h⟩ => ?_
  unfold evC at h
  cases e : δ[i]? with
  | none => rw [e] at h; exact False.elim h
  | some sl =>
    rw [e] at h
    cases sl with
    | w x =>
      obtain ⟨v, h1, h2⟩ := so.w i x e
      exact ⟨v, h1, h v g H (Le.refl g H) w h2⟩
    | no => exact False.elim h
    | own ds => exact False.elim h
    | ownd ds => exact False.elim h
theorem s_pv {i : Nat} {x : Str} (hN : X.N[i]? = some x) (hv : Vis X.env.scope x) (hd : (x == ("__debug__" : Str)) = false) (hcd : (x == ("__classdict__" : Str)) = false) : PE X (.Name x pos) (tP M Φ (.v i) E) := by
  refine (pe_var (i := i) hN hv hd hcd).imp fun σ H Q ⟨g, H0, δ, s, w, so, h⟩ => ?_
  unfold peek at h
  cases e : δ[i]? with
  | none => simp only [e, evC] at h; exact False.elim h
  | some sl =>
    cases sl with
    | w x =>
      simp only [e, evC] at h
      obtain ⟨v, h1, h2⟩ := so.w i x e
      exact ⟨v, h1, h v g H (Le.refl g H) w (.of h2)⟩
    | no => simp only [e, evC] at h; exact False.elim h
    | own ds =>
      simp only [e] at h
      obtain ⟨a, vs, h1, h2, h3, h4, h5, h6, h7⟩ := so.own i ds e
      exact ⟨_, h1, h _ g H (Le.refl g H) w (.inr ⟨a, vs, rfl, h2, h5, h6, h7⟩)⟩
    | ownd kvs =>
      simp only [e] at h
      obtain ⟨a, vs, h1, h2, h3, h4, h5, h6, h7⟩ := so.ownd i kvs e
      exact ⟨_, h1, h _ g H (Le.refl g H) w (.inr ⟨a, vs, rfl, h2, h5, h6, h7⟩)⟩
theorem peek_other {δ : Env} {s : Sto} {r : Res W} (h : ∀ i, ca ≠ .v i) : peek ca δ s r = r := by
  unfold peek
  split
  · rename_i i; exact absurd rfl (h i)
  · rfl
theorem s_p (h : ∀ i, ca ≠ .v i) (ha : PE X a (tC M Φ ca E)) : PE X a (tP M Φ ca E) := by
  refine ha.imp fun σ H Q ⟨g, H0, δ, s, w, so, q⟩ => ⟨g, H0, δ, s, w, so, ?_⟩
  rw [peek_other h] at q
  exact q.rel fun _ _ _ _ r => .of r
theorem s_int {i : Int} {j : Nat} : PE X (.Constant (.int i) j pos) (tC M Φ (.k (.int i)) E) := pe_int.imp fun σ H Q ⟨g, H0, δ, s, w, so, h⟩ => Post.pure w h rfl
theorem s_bl {i : Bool} {j : Nat} : PE X (.Constant (.bool i) j pos) (tC M Φ (.k (.bl i)) E) := pe_bl.imp fun σ H Q ⟨g, H0, δ, s, w, so, h⟩ => Post.pure w h rfl
theorem s_non {j : Nat} : PE X (.Constant .none j pos) (tC M Φ (.k .non) E) := pe_non.imp fun σ H Q ⟨g, H0, δ, s, w, so, h⟩ => Post.pure w h rfl
theorem s_str {x : List Nat} {y : Str} {j : Nat} (e : y = sS x) : PE X (.Constant (.str y) j pos) (tC M Φ (.k (.str x)) E) := by
  subst e
  exact pe_str.imp fun σ H Q ⟨g, H0, δ, s, w, so, h⟩ => Post.pure w h rfl
theorem s_gl {n : Nat} {x : Str} {u : Value} {v : V} (hg : Gl X x) (hm : X.mg x = some u) (r : RelV v u) (hr : ∀ F, Rep M.K F (M.gl n) v) (hd : (x == ("__debug__" : Str)) = false) : PE X (.Name x pos) (tC M Φ (.gl n) E) :=
  (pe_glob hg hm r hd).imp fun σ H Q ⟨g, H0, δ, s, w, so, h⟩ => Post.pure w h (hr _)

/-! ### two places -/
theorem bin_imp {f : W → W → Sto → Res W} {r : R2} (hr : ∀ g H s x y v u Q, WOk M g H s → RepW M g x v → RepW M g y u → Post M E (f x y s) g H Q → r v u H Q) (σ : L2.St) (H : Hp) (Q : VK)
    (q : ∃ g H0 δ s, WOk M g H s ∧ SOk M g H0 H σ δ ∧ Post M E ((evC M.gl Φ ca δ s).bind fun x s => (evC M.gl Φ cb δ s).bind fun y s => f x y s) g H Q) : tOp r (tC M Φ ca E) (tC M Φ cb E) σ H Q := by
  obtain ⟨g, H0, δ, s, w, so, h⟩ := q
  refine tC.bind w so h fun v H1 g1 x s1 l1 w1 so1 r1 h1 => ?_
  refine tC.bind w1 so1 h1 fun u H2 g2 y s2 l2 w2 so2 r2 h2 => ?_
  exact hr g2 H2 s2 x y v u Q w2 (r1.mono l2) r2 h2
theorem s_bin {o : Bop} {op : Operator} {r : R2} (ho : OpR X (binaryOp op) r) (hr : ∀ g H s x y v u Q, WOk M g H s → RepW M g x v → RepW M g y u → Post M E (binR o x y s) g H Q → r v u H Q)
    (ha : PE X a (tC M Φ ca E)) (hb : PE X b (tC M Φ cb E)) : PE X (.BinOp a op b pos) (tC M Φ (.bin o ca cb) E) :=
  (pe_op ho ha hb).imp fun σ H Q q => bin_imp hr σ H Q (by unfold tC at q; unfold evC at q; exact q)
theorem SqB.mono' {K : PySem.W.Frag} {M : Mw} {g : Gh} {H : Hp} {s : Sto} {a : Addr} {vs : List V} (h : SqB K g.F a vs) (w : WOk M g H s) : SqT K H a vs := w.sub.sqT h.1
theorem _root_.L2.SqT.mono' {K : PySem.W.Frag} {M : Mw} {g : Gh} {H : Hp} {s : Sto} {a : Addr} {vs : List V} (h : SqT K g.F a vs) (w : WOk M g H s) : SqT K H a vs := w.sub.sqT h
theorem sS_len (x : List Nat) : (sS x).length = x.length := by simp [Str.length]
theorem sS_app (x y : List Nat) : sS x ++ sS y = sS (x ++ y) := by
  show (⟨(x.toArray ++ y.toArray)⟩ : Str) = ⟨(x ++ y).toArray⟩
  simp
theorem lim_eq : lim = sizeLine := by decide
theorem s_add (hK : X.K = M.K) (ha : PE X a (tC M Φ ca E)) (hb : PE X b (tC M Φ cb E)) : PE X (.BinOp a .Add b pos) (tC M Φ (.bin .add ca cb) E) := by
  refine s_bin (((op_add.or op_add_str).or op_catB).or op_cat) (fun g H s x y v u Q w r1 r2 h => ?_) ha hb
  cases x with
  | d x =>
    cases y with
    | d y =>
      cases x with
      | int i =>
        cases y with
        | int j => exact .inl (.inl (.inl ⟨i, j, r1, r2, Post.pure w h rfl⟩))
        | _ => exact False.elim h
      | str x =>
        cases y with
        | str y =>
          simp only [binR] at h
          split at h
          · rename_i hl
            refine .inl (.inl (.inr ⟨sS x, sS y, r1, r2, by rw [sS_len, sS_len, ← lim_eq]; exact hl, Post.pure w h ?_⟩))
            rw [sS_app]; rfl
          · exact False.elim h
        | _ => exact False.elim h
      | tup x =>
        cases y with
        | tup y =>
          simp only [binR] at h
          split at h
          · rename_i hl
            obtain ⟨a, vs, rfl, q1, q2⟩ := r1
            obtain ⟨b, us, rfl, q3, q4⟩ := r2
            refine .inl (.inr ⟨a, b, vs, us, rfl, rfl, ?_⟩)
            refine ⟨by rw [hK]; exact q1.mono' w, by rw [hK]; exact q3.mono' w, by rw [q2.length, q4.length, ← lim_eq]; exact hl, fun e => ?_, fun _ e => ?_, fun _ _ p o hp ho => Post.tup w h (q2.app q4) hp ho⟩
            · refine Post.pure w h ⟨b, us, rfl, q3, ?_⟩
              have := q2.length
              rw [e] at this
              rw [List.eq_nil_of_length_eq_zero (l := x) this.symm]
              exact q4
            · refine Post.pure w h ⟨a, vs, rfl, q1, ?_⟩
              have := q4.length
              rw [e] at this
              rw [List.eq_nil_of_length_eq_zero (l := y) this.symm, List.append_nil]
              exact q2
          · exact False.elim h
        | _ => exact False.elim h
      | lst x =>
        cases y with
        | lst y =>
          simp only [binR] at h
          split at h
          · rename_i hl
            obtain ⟨a, vs, rfl, q1, q2⟩ := r1
            obtain ⟨b, us, rfl, q3, q4⟩ := r2
            refine .inr ⟨a, b, vs, us, rfl, rfl, w.sub _ _ q1, w.sub _ _ q3, by rw [q2.length, q4.length, ← lim_eq]; exact hl, fun p hp => Post.lst w h (q2.app q4) hp⟩
          · exact False.elim h
        | _ => exact False.elim h
      | _ => exact False.elim h
    | _ => cases x <;> exact False.elim h
  | _ => exact False.elim h

/-- two ints in, by a rule for ints -/
theorem int2 {M : Mw} {E : XK} {f : W → W → Sto → Res W} {r : R2} (hr : ∀ g H s (i j : Int) Q, WOk M g H s → Post M E (f (.d (.int i)) (.d (.int j)) s) g H Q → r (.int i) (.int j) H Q)
    (hb : ∀ x y s, (∀ i j, ¬ (x = .d (.int i) ∧ y = .d (.int j))) → f x y s = .bad) : ∀ g H s x y v u Q, WOk M g H s → RepW M g x v → RepW M g y u → Post M E (f x y s) g H Q → r v u H Q := by
  intro g H s x y v u Q w r1 r2 h
  by_cases e : ∃ i j, x = .d (.int i) ∧ y = .d (.int j)
  · obtain ⟨i, j, rfl, rfl⟩ := e
    cases r1; cases r2
    exact hr g H s i j Q w h
  · rw [hb x y s fun i j z => e ⟨i, j, z⟩] at h
    exact False.elim h
theorem s_sub (ha : PE X a (tC M Φ ca E)) (hb : PE X b (tC M Φ cb E)) : PE X (.BinOp a .Sub b pos) (tC M Φ (.bin .sub ca cb) E) :=
  s_bin op_sub (int2 (fun g H s i j Q w h => ⟨i, j, rfl, rfl, Post.pure w h rfl⟩) fun x y s h => by
    unfold binR; split <;> first | rfl | (rename_i i j; exact absurd ⟨rfl, rfl⟩ (h _ _)) | skip
    all_goals simp_all) ha hb
theorem s_fdiv (ha : PE X a (tC M Φ ca E)) (hb : PE X b (tC M Φ cb E)) : PE X (.BinOp a .FloorDiv b pos) (tC M Φ (.bin .fdiv ca cb) E) :=
  s_bin op_fdivW (int2 (fun g H s i j Q w h => by
    simp only [binR] at h
    split at h
    · rename_i hd
      simp only [divOk, Bool.and_eq_true, decide_eq_true_eq] at hd
      exact ⟨i, j, rfl, rfl, hd, Post.pure w h rfl⟩
    · exact False.elim h) fun x y s h => by
    unfold binR; split <;> first | rfl | (rename_i i j; exact absurd ⟨rfl, rfl⟩ (h _ _)) | skip
    all_goals simp_all) ha hb
theorem s_mod (ha : PE X a (tC M Φ ca E)) (hb : PE X b (tC M Φ cb E)) : PE X (.BinOp a .Mod b pos) (tC M Φ (.bin .mod ca cb) E) :=
  s_bin op_mod (int2 (fun g H s i j Q w h => by
    simp only [binR] at h
    split at h
    · rename_i hd
      exact ⟨i, j, rfl, rfl, of_decide_eq_true hd, Post.pure w h rfl⟩
    · exact False.elim h) fun x y s h => by
    unfold binR; split <;> first | rfl | (rename_i i j; exact absurd ⟨rfl, rfl⟩ (h _ _)) | skip
    all_goals simp_all) ha hb
theorem s_pow (ha : PE X a (tC M Φ ca E)) (hb : PE X b (tC M Φ cb E)) : PE X (.BinOp a .Pow b pos) (tC M Φ (.bin .pow ca cb) E) :=
  s_bin op_pow (int2 (fun g H s i j Q w h => by
    simp only [binR] at h
    split at h
    · rename_i hd
      simp only [Bool.and_eq_true, decide_eq_true_eq] at hd
      exact ⟨i, j, rfl, rfl, ⟨hd.1.1, by omega, hd.2⟩, Post.pure w h rfl⟩
    · exact False.elim h) fun x y s h => by
    unfold binR; split <;> first | rfl | (rename_i i j; exact absurd ⟨rfl, rfl⟩ (h _ _)) | skip
    all_goals simp_all) ha hb
theorem op_mulS : OpR X (binaryOp .Mult) (fun x y H Q => ∃ (z : List Nat) (j : Int), x = .str (sS z) ∧ y = .int j ∧ z.length ≤ 1000 ∧ 0 ≤ j ∧ j ≤ 1000 ∧ Q (.str (sS (rep j.toNat z))) H) := by
  intro pins s σ H x y v u Q I rx ry ⟨z, j, ex, ey, h1, h2, h3, q⟩
  subst ex ey
  obtain ⟨t, rfl⟩ := rx
  obtain ⟨t', rfl⟩ := ry
  have hl : (sS z).length = z.length := by simp [Str.length]
  have fold : ∀ (n : Nat) (acc : Array Nat), (List.replicate n (sS z).cps).foldl (· ++ ·) acc = acc ++ (rep n z).toArray := by
    intro n
    induction n with
    | zero => intro acc; simp [rep]
    | succ n ih =>
      intro acc
      rw [List.replicate_succ, List.foldl_cons, ih]
      simp [rep, List.replicate_succ]
  have e : Txt.mul (sS z) j = sS (rep j.toNat z) := by
    unfold Txt.mul
    by_cases hj : j < 1
    · rw [if_pos hj]
      have : j = 0 := by omega
      subst this
      rfl
    · rw [if_neg hj]
      by_cases h1 : (j == 1 || (sS z).length == 0) = true
      · rw [if_pos h1]
        rw [Bool.or_eq_true] at h1
        rcases h1 with h1 | h1
        · have : j = 1 := eq_of_beq h1
          subst this
          simp [rep]
        · rw [hl] at h1
          have : z.length = 0 := eq_of_beq h1
          rw [List.eq_nil_of_length_eq_zero this]
          simp [rep]
      · rw [if_neg h1, fold]
        simp
  have hb : z.length * j.toNat ≤ 1000000 := by
    have := Nat.mul_le_mul h1 (show j.toNat ≤ 1000 by omega)
    omega
  refine SB.mul ⟨by rw [Bool.or_eq_false_iff]; exact ⟨decide_eq_false (by omega), decide_eq_false (by omega)⟩, fun hj _ => ?_, fun _ _ => ?_⟩ fun t' k => ⟨.str (sS (rep j.toNat z)), H, I.kept (fun b o e => e), ⟨t', by rw [e]⟩, q⟩
  · rw [hl]
    have h5 : (1000 : Int) ≤ (2 ^ 63 - 1) / j := Int.le_ediv_of_mul_le (by omega) (by omega)
    omega
  · rw [hl]
    show decide (z.length * j.toNat > sizeLine) = false
    rw [← lim_eq]
    unfold lim
    exact decide_eq_false (by omega)
theorem tuple_mul1 (l : Addr) (items : Array Value) (n : Nat) (dd : Option Addr) (sl : Array (Option Value)) (u : Tok) :
    Meets (Builtin.«tuple.__mul__» ⟨[.ref l, .int 1 u], []⟩) (fun _ R s => s.heap.get? l = some { cls := .type "tuple", dict := dd, data := .seq items n, slots := sl } ∧ R (.ok (.ret (Value.ref l))) s) :=
  .of_wp fun prog w A R s h => by
    obtain ⟨hp, g, d, tk, os⟩ := s
    obtain ⟨hl, h⟩ := h
    have f1 := AutoSeq1.idx_int
    have c1 : (items.isEmpty || (1 : Int) == 1) = true := by rw [Bool.or_eq_true]; exact .inr rfl
    wp_walk using wpAny_loadPart' hl
    repeat (first
      | (refine wpAny_ite_false (decide_eq_false (by decide)) ?_; wp_walk using wpAny_loadPart' hl)
      | (refine wpAny_ite_true (decide_eq_true c1) ?_; wp_walk using wpAny_loadPart' hl)
      | (refine wpAny_ite_true (decide_eq_true rfl) ?_; wp_walk using wpAny_loadPart' hl))
    exact ⟨_, rfl, h⟩
def rRepT1 (K : PySem.W.Frag) : R2 := fun x y H Q => ∃ l xs, x = .ref l ∧ y = .int 1 ∧ SqT K H l xs ∧ Q (.ref l) H
theorem op_repT1 : OpR X (binaryOp .Mult) (rRepT1 X.K) := by
  intro pins s σ H x y v u Q I rx ry h
  obtain ⟨l, xs, rfl, rfl, hT, q⟩ := h
  cases rx
  obtain ⟨t, rfl⟩ := ry
  obtain ⟨its, r, ⟨⟨cls, dd, data, sl⟩, ho, hc, n, hd⟩, hs⟩ := I.tuple hT
  simp only at hc hd
  subst hc hd
  refine wpAny_binaryOp_repeat_ref (T := "tuple") (U := "int") (by decide) ⟨_, ho, rfl⟩ (fun s' => typeIs_int s' 1 t) noFill_tuple_mul F.fills_int_mul F.slot_int_rmul repeat_tuple F.slot_int_index.lookup
    (call_meets F.slot_int_rmul (typeIs_int s 1 t) F.entry_int_rmul (F.args_int_rmul_2 _ _) (int_rmul_tuple 1 t l its.toArray n dd sl)
      ⟨ho, rfl, ⟨_, ho, rfl⟩, call_meets F.slot_tuple_mul ⟨_, ho, rfl⟩ F.entry_tuple_mul (F.args_tuple_mul_2 _ _) (tuple_mul1 l its.toArray n dd sl t) ⟨ho, ?_⟩⟩)
  exact ⟨.ref l, H, I, rfl, q⟩
theorem rep1 {α : Type} {xs : List α} : rep 1 xs = xs := by simp [rep]
theorem s_mul (hK : X.K = M.K) (ha : PE X a (tC M Φ ca E)) (hb : PE X b (tC M Φ cb E)) : PE X (.BinOp a .Mult b pos) (tC M Φ (.bin .mul ca cb) E) := by
  refine s_bin ((((op_mul.or op_mulW).or (op_repB.or op_repT1)).or op_rep).or op_mulS) (fun g H s x y v u Q w r1 r2 h => ?_) ha hb
  cases x with
  | d x =>
    cases y with
    | d y =>
      cases x with
      | int i =>
        cases y with
        | int j =>
          simp only [binR] at h
          split at h
          · rename_i hm
            simp only [mulOk, Bool.or_eq_true, decide_eq_true_eq] at hm
            rcases hm with (hm | hm) | hm
            · exact .inl (.inl (.inl (.inl ⟨i, j, r1, r2, .inl (by constructor <;> omega), Post.pure w h rfl⟩)))
            · exact .inl (.inl (.inl (.inl ⟨i, j, r1, r2, .inr (by constructor <;> omega), Post.pure w h rfl⟩)))
            · exact .inl (.inl (.inl (.inr ⟨i, j, r1, r2, hm, Post.pure w h rfl⟩)))
          · exact False.elim h
        | _ => exact False.elim h
      | tup x =>
        cases y with
        | int j =>
          simp only [binR] at h
          split at h
          · rename_i hm
            simp only [Bool.and_eq_true, decide_eq_true_eq] at hm
            obtain ⟨⟨⟨h1, h2⟩, h3⟩, h4⟩ := hm
            obtain ⟨a, vs, rfl, q1, q2⟩ := r1
            by_cases hj : j = 1
            · subst hj
              refine .inl (.inl (.inr (.inr ⟨a, vs, rfl, r2, by rw [hK]; exact q1.mono' w, Post.pure w h ?_⟩)))
              rw [show (1 : Int).toNat = 1 from rfl, rep1]
              exact ⟨a, vs, rfl, q1, q2⟩
            refine .inl (.inl (.inr (.inl ⟨a, j, vs, rfl, r2, by rw [hK]; exact q1.mono' w, fun e => ?_, by omega, h4, by rw [q2.length]; exact h1, fun p o hp ho => Post.tup w h (q2.flat _) hp ho⟩)))
            have := q2.length
            rw [e] at this
            rw [List.eq_nil_of_length_eq_zero (l := x) this.symm] at h2
            cases h2
          · exact False.elim h
        | _ => exact False.elim h
      | str x =>
        cases y with
        | int j =>
          simp only [binR] at h
          split at h
          · rename_i hm
            simp only [Bool.and_eq_true, decide_eq_true_eq] at hm
            exact .inr ⟨x, j, r1, r2, hm.1.1, hm.1.2, hm.2, Post.pure w h rfl⟩
          · exact False.elim h
        | _ => exact False.elim h
      | lst x =>
        cases y with
        | int j =>
          simp only [binR] at h
          split at h
          · rename_i hm
            simp only [Bool.and_eq_true, decide_eq_true_eq] at hm
            obtain ⟨⟨h1, h3⟩, h4⟩ := hm
            obtain ⟨a, vs, rfl, q1, q2⟩ := r1
            refine .inl (.inr ⟨a, j, vs, rfl, r2, w.sub _ _ q1, by omega, by omega, ?_, fun p hp => Post.lst w h (q2.flat _) hp⟩)
            rw [q2.length, ← lim_eq]
            have h5 : j.toNat ≤ 1000 := by omega
            have h6 := Nat.mul_le_mul h1 h5
            unfold lim
            omega
          · exact False.elim h
        | _ => exact False.elim h
      | _ => exact False.elim h
    | _ => cases x <;> exact False.elim h
  | _ => exact False.elim h

/-! ### one place -/
theorem s_neg (ha : PE X a (tC M Φ ca E)) : PE X (.UnaryOp .USub a pos) (tC M Φ (.neg ca) E) := by
  refine (pe_un un_neg ha).imp fun σ H Q ⟨g, H0, δ, s, w, so, h⟩ => ?_
  unfold evC at h
  refine tC.bind w so h fun v H1 g1 x s1 l1 w1 so1 r1 h1 => ?_
  cases x with
  | d x => cases x with
    | int i => exact ⟨i, r1, Post.pure w1 h1 rfl⟩
    | _ => exact False.elim h1
  | _ => exact False.elim h1
theorem s_not (ha : PE X a (tC M Φ ca E)) : PE X (.UnaryOp .Not a pos) (tC M Φ (.not_ ca) E) := by
  refine (pe_not ha).imp fun σ H Q ⟨g, H0, δ, s, w, so, h⟩ => ?_
  unfold evC at h
  refine tC.bind w so h fun v H1 g1 x s1 l1 w1 so1 r1 h1 => ?_
  cases x with
  | d x => cases x with
    | bl i => exact ⟨i, r1, Post.bl w1 h1⟩
    | _ => exact False.elim h1
  | _ => exact False.elim h1
theorem s_and {rest : List Expr} (ha : PE X a (tC M Φ ca E)) (hb : PE X (.BoolOp .And (b :: rest) pos) (tC M Φ cb E)) : PE X (.BoolOp .And (a :: b :: rest) pos) (tC M Φ (.and_ ca cb) E) := by
  refine (pe_and ha hb).imp fun σ H Q ⟨g, H0, δ, s, w, so, h⟩ => ?_
  unfold evC at h
  refine tC.bind w so h fun v H1 g1 x s1 l1 w1 so1 r1 h1 => ?_
  cases x with
  | d x => cases x with
    | bl i =>
      refine ⟨i, r1, ?_⟩
      cases i with
      | true =>
        rw [if_pos rfl]
        refine tC.bind w1 so1 h1 fun v H2 g2 y s2 l2 w2 so2 r2 h2 => ?_
        cases y with
        | d y => cases y with
          | bl j =>
            cases r2
            exact Post.bl w2 h2
          | _ => exact False.elim h2
        | _ => exact False.elim h2
      | false => exact Post.bl w1 h1
    | _ => exact False.elim h1
  | _ => exact False.elim h1
theorem s_or {rest : List Expr} (ha : PE X a (tC M Φ ca E)) (hb : PE X (.BoolOp .Or (b :: rest) pos) (tC M Φ cb E)) : PE X (.BoolOp .Or (a :: b :: rest) pos) (tC M Φ (.or_ ca cb) E) := by
  refine (pe_or ha hb).imp fun σ H Q ⟨g, H0, δ, s, w, so, h⟩ => ?_
  unfold evC at h
  refine tC.bind w so h fun v H1 g1 x s1 l1 w1 so1 r1 h1 => ?_
  cases x with
  | d x => cases x with
    | bl i =>
      refine ⟨i, r1, ?_⟩
      cases i with
      | false =>
        rw [if_neg Bool.false_ne_true]
        refine tC.bind w1 so1 h1 fun v H2 g2 y s2 l2 w2 so2 r2 h2 => ?_
        cases y with
        | d y => cases y with
          | bl j =>
            cases r2
            exact Post.bl w2 h2
          | _ => exact False.elim h2
        | _ => exact False.elim h2
      | true => exact Post.bl w1 h1
    | _ => exact False.elim h1
  | _ => exact False.elim h1
/-! ### tests: as values, then by truth -/
theorem PostG.congr {α β : Type} {M : Mw} {E : XK} {Rel : Gh → Hp → α → β → Prop} {r r' : Res α} {g : Gh} {H : Hp} {Q : β → Hp → Prop} (h : PostG M E Rel r g H Q) (e : r = r') : PostG M E Rel r' g H Q := e ▸ h
theorem t_val (ha : PE X a (tC M Φ ca E)) (he : ∀ whole, isTrue a X.env whole = (do let v ← whole; standAt a.pos; holding [v] (truthy v))) : PT X a (tT M Φ ca E) := by
  refine (pt_truth ha he).imp fun σ H Q ⟨g, H0, δ, s, w, so, h⟩ => ?_
  refine tC.bind w so h fun v H1 g1 x s1 l1 w1 so1 r1 h1 => ?_
  cases x with
  | d x => cases x with
    | bl i =>
      cases r1
      exact ⟨i, rfl, h1 i g1 H1 (Le.refl _ _) w1 rfl⟩
    | int i =>
      cases r1
      exact ⟨i != 0, rfl, h1 _ g1 H1 (Le.refl _ _) w1 rfl⟩
    | _ => exact False.elim h1
  | _ => exact False.elim h1
theorem t_not (ha : PT X a (tT M Φ ca E)) : PT X (.UnaryOp .Not a pos) (tT M Φ (.not_ ca) E) := by
  refine (pt_not ha).imp fun σ H Q ⟨g, H0, δ, s, w, so, h⟩ => ?_
  unfold evC at h
  refine ⟨g, H0, δ, s, w, so, ?_⟩
  revert h
  cases evC M.gl Φ ca δ s with
  | ok x s1 =>
    intro h
    cases x with
    | d x => cases x with
      | bl i => exact fun b g' H' l w' e => h (!b) g' H' l w' (by cases e; rfl)
      | _ => exact False.elim h
    | _ => exact False.elim h
  | exc c s => exact fun h => h
  | bad => exact fun h => h
theorem tT.bind {α κ : Type} {M : Mw} {Φ : Nat → Option Fn} {c : C} {E : XK} {σ : L2.St} {H H0 : Hp} {g : Gh} {δ : Env} {s : Sto} {Rel2 : Gh → Hp → α → κ → Prop} {f : W → Sto → Res α} {Q2 : κ → Hp → Prop} {Q : Bool → Hp → Prop}
    (w : WOk M g H s) (so : SOk M g H0 H σ δ) (h : PostG M E Rel2 ((evC M.gl Φ c δ s).bind f) g H Q2) (hf : ∀ x s, truth x = none → f x s = .bad)
    (k : ∀ b H1 g1 x s1, Le g H g1 H1 → WOk M g1 H1 s1 → SOk M g1 H0 H1 σ δ → truth x = some b → PostG M E Rel2 (f x s1) g1 H1 Q2 → Q b H1) : tT M Φ c E σ H Q := by
  refine ⟨g, H0, δ, s, w, so, ?_⟩
  revert h
  cases evC M.gl Φ c δ s with
  | ok x s1 =>
    intro h
    show PostG M E _ (if (truth x).isSome then .ok x s1 else .bad) g H Q
    cases e : truth x with
    | none =>
      have h' : PostG M E Rel2 (f x s1) g H Q2 := h
      rw [hf x s1 e] at h'
      exact False.elim h'
    | some b =>
      exact fun b' g' H' l w' eb => by
        have eb : truth x = some b' := eb
        rw [e] at eb; cases eb
        exact k b H' g' x s1 l w' (so.later l) e (PostG.later h l)
  | exc c s => exact fun h => h
  | bad => exact fun h => h
theorem truth_bl {x : W} {b : Bool} (h : truth x = some b) (k : ∀ i, x ≠ .d (.int i)) : x = .d (.bl b) := by
  cases x with
  | d x => cases x with
    | bl c => cases h; rfl
    | int i => exact absurd rfl (k i)
    | _ => cases h
  | _ => cases h
theorem t_and {rest : List Expr} (ha : PT X a (tT M Φ ca E)) (hb : PW X (.BoolOp .And (b :: rest) pos) (tT M Φ cb E)) : PW X (.BoolOp .And (a :: b :: rest) pos) (tT M Φ (.and_ ca cb) E) := by
  refine ⟨fun wh pins s σ H Q I h => (pw_and ha hb).run wh pins s σ H Q I ?_⟩
  obtain ⟨g, H0, δ, s, w, so, h⟩ := h
  unfold evC at h
  have h' : PostG M E (fun _ _ (w : W) (b : Bool) => truth w = some b) ((evC M.gl Φ ca δ s).bind fun x s => (match x with
    | .d (.bl true) => (evC M.gl Φ cb δ s).bind fun y s => (match y with | .d (.bl c) => blR c s | _ => .bad)
    | .d (.bl false) => blR false s
    | _ => .bad : Res W).bind fun w s => if (truth w).isSome then .ok w s else .bad) g H Q := by
    refine h.congr ?_
    cases evC M.gl Φ ca δ s <;> rfl
  refine tT.bind w so h' (fun x s e => ?_) fun c H1 g1 x s1 l1 w1 so1 r1 h1 => ?_
  · cases x with
    | d x => cases x <;> first | rfl | cases e
    | _ => rfl
  · cases x with
    | d x => cases x with
      | bl i =>
        cases r1
        cases c with
        | true =>
          rw [if_pos rfl]
          refine ⟨g1, H0, δ, s1, w1, so1, ?_⟩
          revert h1
          show PostG M E _ (Res.bind (Res.bind _ _) _) g1 H1 Q → _
          cases evC M.gl Φ cb δ s1 with
          | ok y s2 =>
            intro h1
            cases y with
            | d y => cases y with
              | bl j => exact h1
              | _ => exact False.elim h1
            | _ => exact False.elim h1
          | exc c s => exact fun h => h
          | bad => exact fun h => h
        | false => exact h1 false g1 H1 (Le.refl _ _) w1 rfl
      | _ => exact False.elim h1
    | _ => exact False.elim h1
theorem t_or {rest : List Expr} (ha : PT X a (tT M Φ ca E)) (hb : PW X (.BoolOp .Or (b :: rest) pos) (tT M Φ cb E)) : PW X (.BoolOp .Or (a :: b :: rest) pos) (tT M Φ (.or_ ca cb) E) := by
  refine ⟨fun wh pins s σ H Q I h => (pw_or ha hb).run wh pins s σ H Q I ?_⟩
  obtain ⟨g, H0, δ, s, w, so, h⟩ := h
  unfold evC at h
  have h' : PostG M E (fun _ _ (w : W) (b : Bool) => truth w = some b) ((evC M.gl Φ ca δ s).bind fun x s => (match x with
    | .d (.bl false) => (evC M.gl Φ cb δ s).bind fun y s => (match y with | .d (.bl c) => blR c s | _ => .bad)
    | .d (.bl true) => blR true s
    | _ => .bad : Res W).bind fun w s => if (truth w).isSome then .ok w s else .bad) g H Q := by
    refine h.congr ?_
    cases evC M.gl Φ ca δ s <;> rfl
  refine tT.bind w so h' (fun x s e => ?_) fun c H1 g1 x s1 l1 w1 so1 r1 h1 => ?_
  · cases x with
    | d x => cases x <;> first | rfl | cases e
    | _ => rfl
  · cases x with
    | d x => cases x with
      | bl i =>
        cases r1
        cases c with
        | false =>
          rw [if_neg Bool.false_ne_true]
          refine ⟨g1, H0, δ, s1, w1, so1, ?_⟩
          revert h1
          show PostG M E _ (Res.bind (Res.bind _ _) _) g1 H1 Q → _
          cases evC M.gl Φ cb δ s1 with
          | ok y s2 =>
            intro h1
            cases y with
            | d y => cases y with
              | bl j => exact h1
              | _ => exact False.elim h1
            | _ => exact False.elim h1
          | exc c s => exact fun h => h
          | bad => exact fun h => h
        | true => exact h1 true g1 H1 (Le.refl _ _) w1 rfl
      | _ => exact False.elim h1
    | _ => exact False.elim h1
theorem s_ife {t : Expr} {ct : C} (ht : PT X t (tT M Φ ct E)) (ha : PE X a (tC M Φ ca E)) (hb : PE X b (tC M Φ cb E)) : PE X (.IfExp t a b pos) (tC M Φ (.ife ct ca cb) E) := by
  refine (pe_ifExp ht ha hb).imp fun σ H Q ⟨g, H0, δ, s, w, so, h⟩ => ?_
  unfold evC at h
  refine tT.bind w so h (fun x s e => by rw [e]) fun c H1 g1 x s1 l1 w1 so1 r1 h1 => ?_
  rw [r1] at h1
  cases c with
  | true => exact ⟨g1, H0, δ, s1, w1, so1, h1⟩
  | false => exact ⟨g1, H0, δ, s1, w1, so1, h1⟩

/-! ### lists of expressions -/
theorem s_nil : PA X [] (tWs M Φ .nil E) := pa_nil.imp fun σ H Q ⟨g, H0, δ, s, w, so, h⟩ => h [] g H (Le.refl _ _) w rfl
theorem s_cons {es : List Expr} {cs : Cs} (ha : PE X a (tC M Φ ca E)) (hs : PA X es (tWs M Φ cs E)) (he : starEach (a :: es) X.env = (false, eval a X.env) :: starEach es X.env) : PA X (a :: es) (tWs M Φ (.cons ca cs) E) := by
  refine (pa_cons ha hs he).imp fun σ H Q ⟨g, H0, δ, s, w, so, h⟩ => ?_
  unfold evWs at h
  refine tC.bind w so h fun v H1 g1 x s1 l1 w1 so1 r1 h1 => ?_
  refine ⟨g1, H0, δ, s1, w1, so1, h1.bind.mono fun vs H2 ⟨g2, xs, s2, l2, w2, r2, h2⟩ => ?_⟩
  exact h2 _ g2 H2 (Le.refl _ _) w2 ⟨v, vs, rfl, r1.mono l2, r2⟩
/-- all of them plain data -/
def tDs (M : Mw) (Φ : Nat → Option Fn) (cs : Cs) (E : XK) : TA := fun σ H Q => ∃ g H0 δ s, WOk M g H s ∧ SOk M g H0 H σ δ ∧ PostG M E (fun g _ => Reps M.K g.F) (evDs M.gl Φ cs δ s) g H Q
theorem s_dnil : PA X [] (tDs M Φ .nil E) := pa_nil.imp fun σ H Q ⟨g, H0, δ, s, w, so, h⟩ => h [] g H (Le.refl _ _) w rfl
theorem s_dcons {es : List Expr} {cs : Cs} (ha : PE X a (tC M Φ ca E)) (hs : PA X es (tDs M Φ cs E)) (he : starEach (a :: es) X.env = (false, eval a X.env) :: starEach es X.env) : PA X (a :: es) (tDs M Φ (.cons ca cs) E) := by
  refine (pa_cons ha hs he).imp fun σ H Q ⟨g, H0, δ, s, w, so, h⟩ => ?_
  unfold evDs at h
  refine tC.bind w so h fun v H1 g1 x s1 l1 w1 so1 r1 h1 => ?_
  cases x with
  | d x =>
    refine ⟨g1, H0, δ, s1, w1, so1, (PostG.bind h1).mono fun vs H2 ⟨g2, xs, s2, l2, w2, r2, h2⟩ => ?_⟩
    exact h2 _ g2 H2 (Le.refl _ _) w2 ⟨v, vs, rfl, Rep.mono l2.fr x r1, r2⟩
  | _ => exact False.elim h1
theorem s_tup {es : List Expr} {cs : Cs} {k : Nat} (hs : PA X es (tDs M Φ cs E)) : PE X (.Tuple es k pos) (tC M Φ (.tup cs) E) := by
  refine (pe_tupB hs).imp fun σ H Q ⟨g, H0, δ, s, w, so, h⟩ => ?_
  unfold evC at h
  refine ⟨g, H0, δ, s, w, so, h.bind.mono fun vs H1 ⟨g1, ds, s1, l1, w1, r1, h1⟩ => ?_⟩
  split at h1
  · rename_i hl
    exact ⟨by rw [r1.length, ← lim_eq]; exact hl, fun p o hp ho => Post.tup w1 h1 r1 hp ho⟩
  · exact False.elim h1
theorem PostF.pure {ds : List D} {vs : List V} {s : Sto} {g g0 : Gh} {H H0 : Hp} {Q : VK} {q : Addr} (l : Le g0 H0 g H) (w : WOk M g H s) (h : PostF M E (pureR (.lst ds) s) g0 H0 Q) (r : Reps M.K g.F ds vs) (hp : H q = none) : Q (.ref q) (upd H q (.lst vs)) :=
  h q vs g _ (l.trans (Le.fresh hp)) (w.fresh hp) (l.free_ hp) (w.free hp) upd_same r
theorem f_lst {es : List Expr} {cs : Cs} (hs : PA X es (tDs M Φ cs E)) : PE X (.List es pos) (tF M Φ (.lst cs) E) := by
  refine (pe_lst hs).imp fun σ H Q ⟨g, H0, δ, s, w, so, h⟩ => ?_
  unfold evC at h
  refine ⟨g, H0, δ, s, w, so, ?_⟩
  revert h
  cases evDs M.gl Φ cs δ s with
  | ok ds s1 =>
    intro h vs g1 H1 l1 w1 r1
    have h : PostF M E (if ds.length ≤ lim then pureR (.lst ds) s1 else .bad) g H Q := h
    split at h
    · rename_i hl
      exact ⟨by rw [Reps.length r1, ← lim_eq]; exact hl, fun p hp => PostF.pure l1 w1 h r1 hp⟩
    · exact False.elim h
  | exc c s => exact fun h => h
  | bad => exact fun h => h
theorem ev_lst {gl : Nat → G.D} {cs : Cs} {δ : Env} {s s' : Sto} {x : W} (h : evC gl Φ (.lst cs) δ s = .ok x s') : ∃ ds, x = .d (.lst ds) := by
  unfold evC at h
  cases e : evDs gl Φ cs δ s with
  | ok ds s1 =>
    rw [e] at h
    have h : (if ds.length ≤ lim then pureR (.lst ds) s1 else Res.bad) = .ok x s' := h
    split at h
    · cases h; exact ⟨_, rfl⟩
    · cases h
  | exc c s => rw [e] at h; cases h
  | bad => rw [e] at h; cases h
theorem s_lst {es : List Expr} {cs : Cs} (hs : PA X es (tDs M Φ cs E)) : PE X (.List es pos) (tC M Φ (.lst cs) E) :=
  (f_lst hs).imp fun σ H Q ⟨g, H0, δ, s, w, so, h⟩ => ⟨g, H0, δ, s, w, so, Post.fresh w h fun x s' e => ev_lst e⟩
end
end G
end
section
set_option Elab.async false
set_option linter.all false
set_option maxRecDepth 100000
set_option maxHeartbeats 1000000
/-! dicts whose keys are tuples of ints: read, written, made lists of, walked -/
namespace G
open PySem PySem.Spec PyProof.Rows L2
abbrev Xs := List (List Key × Addr × Value)
def KeysOk (K : PySem.W.Frag) (H : Hp) (xs : Xs) : Prop := ∀ x ∈ xs, SqT K H x.2.1 (x.1.map kV)
section
variable {X : Cx} {pins : List (Addr × Obj)} {σ : L2.St} {H : Hp} {s : Shared} {a b : Addr} {xs : Xs} {ks : List Key} {u : Value} {A : Around} {E : Value → Shared → Prop}
theorem dx_key (I : Inv X pins σ H s) (h : SqT X.K H b (ks.map kV)) : (tupleKind (mixKind X.prog X.w)).is s.heap ks b := by
  obtain ⟨its, r, ⟨o, h1, h2, n, h3⟩, z⟩ := I.tuple h
  exact ⟨o, its.toArray, n, h1, h2, h3, by simpa using items_are r⟩
theorem dx_rd (I : Inv X pins σ H s) (e : Rd H a (DX X.prog X.w a xs)) (hk : KeysOk X.K H xs) : xs.length ≤ sizeLine ∧ (a == sysModules) = false ∧ s.heap.DictOfH (tupleKind (mixKind X.prog X.w)) a xs := by
  obtain ⟨⟨z, y, o, es, ep, h1, h2, h3, h4, h5⟩, _⟩ := (show ObjOk X.prog X.w H s.heap a (DX X.prog X.w a xs) from e.ok I.hok)
  exact ⟨z, y, o, es, ep, h1, h2, h3, h4, fun x hx => dx_key I (hk x hx), h5⟩
theorem dx_ok {P : Program} {w : World} {H : Hp} {h : Heap} (z : xs.length ≤ sizeLine) (y : (a == sysModules) = false) {o : Obj} {es : Array DictEntry} {ep : Nat} (h1 : h.get? a = some o) (h2 : o.ExactDict) (h3 : o.data = .dict es ep) (h4 : es.toList = xs.map (entryOfKey (tupleKind (mixKind P w)))) (h5 : (xs.map (·.1)).Nodup) : ObjOk P w H h a (DX P w a xs) := by
  refine ⟨⟨z, y, o, es, ep, h1, h2, h3, h4, h5⟩, ⟨o, h1⟩, ?_⟩
  rintro g1 g2 ⟨z, y, o, es, ep, h1, h2, h3, h4, h5⟩ k
  exact ⟨z, y, o, es, ep, k o h1, h2, h3, h4, h5⟩
theorem dx_in {Q : Value → Shared → Prop} (hu : A.units + 1 < cLine) (I : Inv X pins σ H s) (e : Rd H a (DX X.prog X.w a xs)) (hk : KeysOk X.K H xs) (hb : SqT X.K H b (ks.map kV)) (h : ∀ s', Inv X pins σ H s' → Q (.bool (atKey xs ks).isSome) s') :
    wpAny (model X.prog X.w) A (compareOp .In (.ref b) (.ref a)) Q E s := by
  obtain ⟨z, hd, dd⟩ := dx_rd I e hk
  exact wpAny_in_heap (tupleKind_room_in1 hu) (dx_key I hb) hd dd (h _ (I.tok _))
theorem dx_notIn {Q : Value → Shared → Prop} (hu : A.units + 1 < cLine) (I : Inv X pins σ H s) (e : Rd H a (DX X.prog X.w a xs)) (hk : KeysOk X.K H xs) (hb : SqT X.K H b (ks.map kV)) (h : ∀ s', Inv X pins σ H s' → Q (.bool (!(atKey xs ks).isSome)) s') :
    wpAny (model X.prog X.w) A (compareOp .NotIn (.ref b) (.ref a)) Q E s := by
  obtain ⟨z, hd, dd⟩ := dx_rd I e hk
  exact wpAny_notIn_heap (tupleKind_room_in1 hu) (dx_key I hb) hd dd (h _ (I.tok _))
theorem stored_len (xs : Xs) (k : List Key) (b : Addr) (v : Value) : (storedH xs k b v).length ≤ xs.length + 1 := by
  unfold storedH
  split <;> simp
theorem dx_set {r : Value} {Q : Unit → Shared → Prop} (hu : A.units + 1 < cLine) (I : Inv X pins σ H s) (e : H a = some (DX X.prog X.w a xs)) (hk : KeysOk X.K H xs) (hb : SqT X.K H b (ks.map kV)) (hl : xs.length < sizeLine)
    (h : ∀ s', Inv X pins σ (upd H a (DX X.prog X.w a (storedH xs ks b r))) s' → Q () s') : wpAny (model X.prog X.w) A (setItem (.ref a) (.ref b) r) Q E s := by
  obtain ⟨z, hd, dd⟩ := dx_rd I (.inl e) hk
  refine wpAny_setItem_heap (hsz := z) (tupleKind_room_in1 hu) (dx_key I hb) dd fun h' dd' hs => h _ ?_
  obtain ⟨q, es, ep, hq, h2, h3, h4, _, h5⟩ := dd'
  exact d_write I (by rw [e]; exact True.intro) hs ⟨q, hq⟩ (dx_ok (by have := stored_len xs ks b r; omega) hd hq h2 h3 h4 h5)
end
/-- d[k] = v -/
def rSetX (P : Program) (w : World) (K : PySem.W.Frag) : TSet := fun o i v H Q => ∃ a b xs ks, o = .ref a ∧ i = .ref b ∧ H a = some (DX P w a xs) ∧ KeysOk K H xs ∧ SqT K H b (ks.map kV) ∧ xs.length < sizeLine ∧ ∀ u, RelV v u → Q (upd H a (DX P w a (storedH xs ks b u)))
section
variable {X : Cx} {pos : Pos}
theorem set_dx (hu : X.A.units + 1 < cLine) : PSet X (rSetX X.prog X.w X.K) := by
  intro pins s σ H o i v ov iv u Q I ro ri rv ⟨a, b, xs, ks, e1, e2, e3, e4, e5, e6, q⟩
  subst e1 e2
  cases (show ov = Value.ref a from ro)
  cases (show iv = Value.ref b from ri)
  exact dx_set hu I e3 e4 e5 e6 fun s' I' => ⟨_, I', q u rv⟩
/-- {} -/
def tDNewX (P : Program) (w : World) : TE := fun _ H Q => ∀ p, H p = none → Q (.ref p) (upd H p (DX P w p []))
theorem pe_dnewX : PE X (.Dict [] [] pos) (tDNewX X.prog X.w) := ⟨fun pins s σ H Q I h => by
  refine wpAny_Dict_empty ⟨.ref s.heap.objs.size, _, I.laid (a := s.heap.objs.size) (o := DX X.prog X.w s.heap.objs.size []) (t' := s.toks) (fun _ _ q => Heap.get?_push_of_some _ q) (Nat.le_refl _) ?_, rfl, h _ (I.hok.fresh (Nat.le_refl _))⟩
  obtain ⟨z, y, xs, r, o, es, ep, h1, h2, h3, h4, h5⟩ := (show ObjOk X.prog X.w H _ s.heap.objs.size (.dT []) from dt_empty s.heap I.big)
  cases r
  exact dx_ok (Nat.zero_le _) y h1 h2 h3 h4 h5⟩
end
/-- list(d) -/
theorem call_list_dx {X : Cx} (hc : X.calm = true) : CallR X (.type "list") (fun vs H Q => ∃ d xs, vs = [V.ref d] ∧ Rd H d (DX X.prog X.w d xs) ∧ ∀ p, H p = none → Q (.ref p) (upd H p (.lst (xs.map fun x => V.ref x.2.1)))) := by
  intro pins s σ H vs us Q I r h
  obtain ⟨d, ks, rfl, hd, q⟩ := h
  obtain ⟨u, rfl, rx⟩ := r.one
  cases rx
  obtain ⟨⟨z, hs, o, es, ep, ho, hx, hdt, he, hn⟩, _⟩ := (show ObjOk X.prog X.w H s.heap d (DX X.prog X.w d ks) from hd.ok I.hok)
  have l1 : es.size = ks.length := size_of_entries he
  refine PySem.W.kdl_call (kdl_raw hs hx hdt) (I.ok.hd hc) ho (by omega) fun h' tk acc' c' kp e it => ?_
  have ea : acc'.toList = ks.map fun x => Value.ref x.2.1 := by
    have hl : acc'.toList.length = ks.length := by rw [Array.length_toList, it.1]; exact l1
    apply List.ext_getElem?
    intro j
    rw [List.getElem?_map]
    cases hj : acc'.toList[j]? with
    | none =>
      have h1 := List.getElem?_eq_none_iff.mp hj
      rw [List.getElem?_eq_none (by omega)]
      all_goals rfl
    | some v =>
      obtain ⟨en, hen, hv⟩ := it.2 j v (by rw [← Array.getElem?_toList]; exact hj)
      have qe := entry_at he j
      rw [hen] at qe
      cases hb : ks[j]? with
      | none =>
        rw [hb] at qe
        exact nomatch (show some en = none from qe)
      | some b =>
        rw [hb] at qe
        have e2 : en = entryOfKey (tupleKind (mixKind X.prog X.w)) b := Option.some.inj qe
        rw [hv, e2]
        all_goals rfl
  have eb : acc'.toList = (ks.map fun x => x.2.1).map Value.ref := by rw [ea, List.map_map]; all_goals rfl
  have rv : Vals (ks.map fun x => V.ref x.2.1) acc'.toList := by
    have := vals_refs (ks.map fun x => x.2.1)
    rw [List.map_map] at this
    rw [eb]
    exact this
  have hz : (ks.map fun x => V.ref x.2.1).length ≤ sizeLine := by rw [List.length_map]; exact z
  refine ⟨.ref s.heap.objs.size, _, I.laid (t' := tk) (o := .lst (ks.map fun x => V.ref x.2.1)) kp (Nat.le_refl _) ?_, rfl, q _ (I.hok.fresh (Nat.le_refl _))⟩
  exact ⟨hz, acc'.toList, c', rv, by rw [Array.toArray_toList]; exact e⟩
/-! ### for k in d -/
def Itx (P : Program) (w : World) (d : Addr) (o : Obj) (xs : Xs) : L2.It :=
  ⟨fun i H => H d = some (.frz o (DX P w d xs)) ∧ i < xs.length, fun i H x H' => H' = H ∧ ∃ y, xs[i]? = some y ∧ x = .ref y.2.1, fun i H => H d = some (.frz o (DX P w d xs)) ∧ xs.length ≤ i⟩
theorem frzX {X : Cx} {pins : List (Addr × Obj)} {σ : L2.St} {H : Hp} {s : Shared} {d : Addr} {o : Obj} {xs : Xs} (I : Inv X pins σ H s) (h : H d = some (.frz o (DX X.prog X.w d xs))) :
    (d == sysModules) = false ∧ s.heap.get? d = some o ∧ o.ExactDict ∧ ∃ (es : Array DictEntry) (ep : Nat), o.data = .dict es ep ∧ es.size = xs.length ∧
      ∀ (i : Nat) (y : List Key × Addr × Value), xs[i]? = some y → ∃ en : DictEntry, es[i]? = some en ∧ en.key = .ref y.2.1 := by
  obtain ⟨hd, ⟨z, hs, o', es, ep, ho, hx, hdt, he, _⟩, _⟩ := I.hok d _ h
  rw [hd] at ho
  cases ho
  refine ⟨hs, hd, hx, es, ep, hdt, size_of_entries he, fun i y e => ?_⟩
  have q := entry_at he i
  rw [e] at q
  exact ⟨_, q, rfl⟩
theorem turn_dx {P : Program} {w : World} {K : PySem.W.Frag} {tg : Expr} {d : Addr} {o : Obj} {xs : Xs} {es : Array DictEntry} {ep : Nat} (it : Addr) (hod : o.data = .dict es ep) : Turn P w K tg (Itx P w d o xs) [it] it (fun i h => h.IsKeyIter it d i xs.length ep) where
  mem := by simp
  obj := fun i h st b hb => by
    have e : b = it := by simpa using hb
    subst e
    obtain ⟨oi, e, c, dd⟩ := st
    exact ⟨oi, e, fun v z => by rw [dd] at z; cases z⟩
  keep := fun i h h' st k => st.at fun oi e => k it (by simp) oi e
  item := by
    intro X hP hw hK hc i pins s σ H E I hf st hg
    subst hP hw hK
    obtain ⟨hd, hi⟩ := hg
    obtain ⟨f0, f1, f2, f3, f4, f5⟩ := hf it (by simp)
    obtain ⟨hs, hgd, hx, es', ep', hdt, hsz, ent⟩ := frzX I hd
    obtain ⟨rfl, rfl⟩ := dict_ep hod hdt
    obtain ⟨y, hy⟩ : ∃ p, xs[i]? = some p := ⟨xs[i], List.getElem?_eq_getElem hi⟩
    obtain ⟨en, hen, hkey⟩ := ent i y hy
    refine next_key_item st hgd hdt hsz hen fun h' st' sb => ?_
    have I1 : Inv X pins σ H { s with heap := h' } := I.turned (t' := s.toks) (fun b ob hb e => (sb.2 b hb).trans e) f0 f1 f3 f4 f5
    obtain ⟨oi, e, c, dd⟩ := id st'
    exact ⟨en.key, rfl, go_of (s := { s with heap := h' }) e c dd (by decide) ⟨.ref y.2.1, H, I1, hkey, ⟨rfl, y, hy, rfl⟩, st', fun b hb => (hf b hb).1⟩⟩
  done := by
    intro X hP hw hK hc i pins s σ H E I hf st hg
    subst hP hw hK
    obtain ⟨hd, hi⟩ := hg
    obtain ⟨f0, f1, f2, f3, f4, f5⟩ := hf it (by simp)
    obtain ⟨hs, hgd, hx, es', ep', hdt, hsz, ent⟩ := frzX I hd
    obtain ⟨rfl, rfl⟩ := dict_ep hod hdt
    exact next_key_end (I.ok.hd hc) st hgd hdt hsz hi fun h' eb => ⟨rfl, I.turned (t' := s.toks) (fun b ob hb e => eb b ob hb e) f0 f1 f3 f4 f5⟩
  self := fun A i s Q E st h => by
    refine wpAny_pyIter_slot st.typeIs F.slot_dict_keyiterator_iter (wpAny_call_entry F.slot_dict_keyiterator_iter st.typeIs F.entry_dict_keyiterator_iter ?_ (F.args_dict_keyiterator_iter_1 _))
    show wpAny _ _ (ret (.ref it)) _ _ s
    exact wpAny_pure ⟨_, rfl, "dict_keyiterator", _, st.typeIs, F.slot_dict_keyiterator_next.lookup, h⟩
/-! ### what stands for what -/
theorem intsOf_inj : ∀ {is : List D} {ks ls : List Key}, intsOf is ks → intsOf is ls → ks = ls
  | [], _, _, h, k => by rw [show _ = [] from h, show _ = [] from k]
  | _ :: _, _, _, ⟨i, r, e1, e2, h⟩, ⟨j, t, f1, f2, k⟩ => by
    subst e1
    cases f1
    rw [e2, f2, intsOf_inj h k]
theorem eqDs_ints : ∀ {is js : List D} {ks ls : List Key}, intsOf is ks → intsOf js ls → eqDs is js = decide (ks = ls)
  | [], [], _, _, h, k => by rw [show _ = [] from h, show _ = [] from k]; simp [eqDs]
  | [], _ :: _, _, _, h, ⟨j, t, f1, f2, k⟩ => by rw [show _ = [] from h, f2]; simp [eqDs]
  | _ :: _, [], _, _, ⟨i, r, e1, e2, h⟩, k => by rw [e2, show _ = [] from k]; simp [eqDs]
  | _ :: _, _ :: _, _, _, ⟨i, r, e1, e2, h⟩, ⟨j, t, f1, f2, k⟩ => by
    subst e1 f1 e2 f2
    rw [eqDs, eqD, eqDs_ints h k]
    by_cases hij : i = j
    · subst hij; simp
    · simp [hij]
theorem keyT_rep {K : PySem.W.Frag} {F : Hp} {k : D} {v : V} (hk : keyT k = true) (r : Rep K F k v) : ∃ is ks b, k = .tup is ∧ intsOf is ks ∧ v = .ref b ∧ SqB K F b (ks.map kV) := by
  cases k with
  | tup is =>
    obtain ⟨b, vs, rfl, q, rs⟩ := r
    have go : ∀ {is : List D} {vs : List V}, is.all isInt = true → Reps K F is vs → ∃ ks, intsOf is ks ∧ vs = ks.map kV := by
      intro is
      induction is with
      | nil => intro vs _ h; exact ⟨[], rfl, h⟩
      | cons d is ih =>
        intro vs ha h
        rw [List.all_cons, Bool.and_eq_true] at ha
        obtain ⟨v, t, rfl, q, h⟩ := h
        obtain ⟨ks, e1, e2⟩ := ih ha.2 h
        cases d with
        | int i => exact ⟨.inl i :: ks, ⟨i, ks, rfl, rfl, e1⟩, by rw [e2, show v = V.int i from q]; rfl⟩
        | _ => cases ha.1
    obtain ⟨ks, e1, e2⟩ := go hk rs
    subst e2
    exact ⟨is, ks, b, rfl, e1, rfl, q⟩
  | _ => cases hk
theorem RepT.keys {K : PySem.W.Frag} {F : Hp} : ∀ {kvs : List (D × D)} {xs : Xs}, RepT K F kvs xs → KeysOk K F xs
  | [], _, h => by rw [show _ = [] from h]; intro x hx; cases hx
  | _ :: _, _, ⟨is, ks, b, v, u, t, e1, e2, e3, e4, q, e5, nn, z⟩ => by
    subst e3
    intro x hx
    rcases List.mem_cons.mp hx with rfl | hx
    · exact e4.1
    · exact RepT.keys z x hx
theorem KeysOk.up {M : Mw} {g : Gh} {H : Hp} {s : Sto} {xs : Xs} (h : KeysOk M.K g.F xs) (w : WOk M g H s) : KeysOk M.K H xs := fun x hx => (h x hx).mono' w
theorem RepT.len {K : PySem.W.Frag} {F : Hp} : ∀ {kvs : List (D × D)} {xs : Xs}, RepT K F kvs xs → xs.length = kvs.length
  | [], _, h => by rw [show _ = [] from h]; rfl
  | _ :: _, _, ⟨is, ks, b, v, u, t, e1, e2, e3, e4, q, e5, nn, z⟩ => by rw [e3, List.length_cons, List.length_cons, RepT.len z]
theorem RepT.has {K : PySem.W.Frag} {F : Hp} {is : List D} {ks : List Key} (hk : intsOf is ks) : ∀ {kvs : List (D × D)} {xs : Xs}, RepT K F kvs xs → hasKV kvs (.tup is) = (atKey xs ks).isSome
  | [], _, h => by rw [show _ = [] from h]; rfl
  | (_, d) :: r, _, ⟨js, ls, b, v, u, t, e1, e2, e3, e4, q, e5, nn, z⟩ => by
    have ih := RepT.has hk z
    subst e1 e3
    unfold hasKV at ih ⊢
    rw [List.any_cons, ih]
    show (eqD (.tup js) (.tup is) || _) = _
    rw [eqD, eqDs_ints e2 hk]
    by_cases h : ls = ks
    · simp [atKey, List.find?_cons, h]
    · simp [atKey, List.find?_cons, h]
theorem stored_mem {xs : Xs} {k : List Key} {b : Addr} {v : Value} {x : List Key × Addr × Value} (h : x ∈ storedH xs k b v) : x.1 = k ∨ ∃ y ∈ xs, y.1 = x.1 := by
  unfold storedH at h
  split at h
  · obtain ⟨y, hy, e⟩ := List.mem_map.mp h
    refine .inr ⟨y, hy, ?_⟩
    rw [← e]
    unfold putAt
    split <;> rfl
  · rcases List.mem_append.mp h with h | h
    · exact .inr ⟨x, h, rfl⟩
    · rw [List.mem_singleton] at h
      exact .inl (by rw [h])
theorem RepT.put {K : PySem.W.Frag} {F : Hp} {is : List D} {ks : List Key} {b : Addr} {d : D} {v : V} {u : Value} (hk : intsOf is ks) (hb : SqB K F b (ks.map kV)) (hd : Rep K F d v) (hu : RelV v u) : ∀ {kvs : List (D × D)} {xs : Xs}, RepT K F kvs xs → RepT K F (putKV kvs (.tup is) d) (storedH xs ks b u)
  | [], _, h => by
    rw [show _ = [] from h]
    exact ⟨is, ks, b, v, u, [], rfl, hk, rfl, hb, hd, hu, (fun x hx => by cases hx), rfl⟩
  | (_, d0) :: r, _, ⟨js, ls, b0, v0, u0, t, e1, e2, e3, e4, q, e5, nn, z⟩ => by
    subst e1 e3
    unfold putKV
    rw [show eqD (.tup js) (.tup is) = eqDs js is by rw [eqD], eqDs_ints e2 hk]
    by_cases h : ls = ks
    · subst h
      have hs : storedH ((ls, b0, u0) :: t) ls b u = (ls, b0, u) :: t := by
        unfold storedH
        have : (atKey ((ls, b0, u0) :: t) ls).isSome = true := by simp [atKey, List.find?_cons]
        rw [if_pos this, List.map_cons]
        have e1 : putAt ls u (ls, b0, u0) = (ls, b0, u) := by simp [putAt]
        rw [e1]
        congr 1
        have : t.map (putAt ls u) = t.map id := List.map_congr_left fun x hx => by
          unfold putAt
          rw [if_neg (nn x hx)]; rfl
        rw [this, List.map_id]
      rw [hs, if_pos (by simp)]
      exact ⟨js, ls, b0, v, u, t, rfl, e2, rfl, e4, hd, hu, nn, z⟩
    · have ih := RepT.put hk hb hd hu z
      have hs : storedH ((ls, b0, u0) :: t) ks b u = (ls, b0, u0) :: storedH t ks b u := by
        unfold storedH
        have e1 : (atKey ((ls, b0, u0) :: t) ks).isSome = (atKey t ks).isSome := by simp [atKey, List.find?_cons, h]
        rw [e1]
        split
        · rw [List.map_cons]
          congr 1
          simp [putAt, h]
        · rfl
      rw [hs, if_neg (by simp [h])]
      refine ⟨js, ls, b0, v0, u0, _, rfl, e2, rfl, e4, q, e5, fun x hx => ?_, ih⟩
      rcases stored_mem hx with e | ⟨y, hy, e⟩
      · exact fun z => h (z.symm.trans e)
      · exact fun z => nn y hy (e.trans z)
theorem RepT.list {K : PySem.W.Frag} {F : Hp} : ∀ {kvs : List (D × D)} {xs : Xs}, RepT K F kvs xs → Reps K F (kvs.map (·.1)) (xs.map fun x => V.ref x.2.1)
  | [], _, h => by rw [show _ = [] from h]; rfl
  | (_, d) :: r, _, ⟨js, ls, b, v, u, t, e1, e2, e3, e4, q, e5, nn, z⟩ => by
    subst e1 e3
    refine ⟨.ref b, _, rfl, ⟨b, ls.map kV, rfl, e4, ?_⟩, RepT.list z⟩
    have go : ∀ {is : List D} {ks : List Key}, intsOf is ks → Reps K F is (ks.map kV) := by
      intro is
      induction is with
      | nil => intro ks h; rw [show _ = [] from h]; rfl
      | cons d is ih =>
        intro ks ⟨i, r, e1, e2, h⟩
        subst e1 e2
        exact ⟨.int i, _, rfl, rfl, ih h⟩
    exact go e2
theorem RepP.dx {M : Mw} {g : Gh} {H : Hp} {s : Sto} {kvs : List (D × D)} {u : V} (w : WOk M g H s) (h : RepP M g H (.dct kvs) u) : ∃ a xs, u = .ref a ∧ Rd H a (DX M.P M.w a xs) ∧ RepT M.K g.F kvs xs := by
  rcases h with ⟨a, o, xs, e, q1, q2⟩ | ⟨a, xs, e, q1, _, _, q2⟩
  · exact ⟨a, xs, e, .inr ⟨o, w.sub _ _ q1⟩, q2⟩
  · exact ⟨a, xs, e, .inl q1, q2⟩
/-! ### keys that are ints -/
theorem RepK.has {K : PySem.W.Frag} {F : Hp} {k : Int} : ∀ {kvs : List (Int × D)} {kv : List (Key × V)}, RepK K F kvs kv → hasKI kvs k = (valV kv (.inl k)).isSome
  | [], _, h => by rw [show _ = [] from h]; rfl
  | (i, d) :: r, _, ⟨v, t, e, q, z⟩ => by
    have ih := RepK.has (k := k) z
    subst e
    unfold hasKI at ih ⊢
    rw [List.any_cons, ih]
    by_cases h : i = k
    · subst h
      rw [valV_pos rfl]
      simp
    · have h2 : ¬ (Sum.inl i : Key) = .inl k := fun z => h (Sum.inl.inj z)
      rw [valV_neg h2]
      simp [h]
theorem RepK.snoc {K : PySem.W.Frag} {F : Hp} {k : Int} {d : D} {v : V} (q : Rep K F d v) : ∀ {kvs : List (Int × D)} {kv : List (Key × V)}, RepK K F kvs kv → RepK K F (kvs ++ [(k, d)]) (kv ++ [(.inl k, v)])
  | [], _, h => by rw [show _ = [] from h]; exact ⟨v, [], rfl, q, rfl⟩
  | (i, e) :: r, _, ⟨u, t, e1, e2, z⟩ => by subst e1; exact ⟨u, _, rfl, e2, RepK.snoc q z⟩
theorem RepK.repl {K : PySem.W.Frag} {F : Hp} {k : Int} {d : D} {v : V} (q : Rep K F d v) : ∀ {kvs : List (Int × D)} {kv : List (Key × V)}, RepK K F kvs kv → RepK K F (kvs.map fun p => if p.1 = k then (p.1, d) else p) (kv.map fun p => if p.1 = .inl k then (p.1, v) else p)
  | [], _, h => by rw [show _ = [] from h]; rfl
  | (i, e) :: r, _, ⟨u, t, e1, e2, z⟩ => by
    subst e1
    have ih := RepK.repl (k := k) q z
    rw [List.map_cons, List.map_cons]
    by_cases h : i = k
    · subst h
      rw [if_pos rfl, if_pos rfl]
      exact ⟨v, _, rfl, q, ih⟩
    · have h2 : ¬ (Sum.inl i : Key) = .inl k := fun z => h (Sum.inl.inj z)
      rw [if_neg (show ¬ (i, e).1 = k from h), if_neg (show ¬ ((Sum.inl i : Key), u).1 = .inl k from h2)]
      exact ⟨u, _, rfl, e2, ih⟩
theorem RepK.put {K : PySem.W.Frag} {F : Hp} {k : Int} {d : D} {v : V} {kvs : List (Int × D)} {kv : List (Key × V)} (h : RepK K F kvs kv) (q : Rep K F d v) : RepK K F (putKI kvs k d) (putK kv (.inl k) v) := by
  unfold putKI putK
  have e : (kv.any fun kv => decide (kv.1 = .inl k)) = hasKI kvs k := by rw [h.has, valV_any]
  rw [e]
  split
  · exact RepK.repl q h
  · exact RepK.snoc q h
theorem RepK.length {K : PySem.W.Frag} {F : Hp} : ∀ {kvs : List (Int × D)} {kv : List (Key × V)}, RepK K F kvs kv → kv.length = kvs.length
  | [], _, h => by rw [show _ = [] from h]; rfl
  | (i, e) :: r, _, ⟨u, t, e1, e2, z⟩ => by subst e1; simp [RepK.length z]
theorem RepK.get {K : PySem.W.Frag} {F : Hp} {k : Int} {d : D} : ∀ {kvs : List (Int × D)} {kv : List (Key × V)}, RepK K F kvs kv → getKI kvs k = some d → ∃ v, valV kv (.inl k) = some v ∧ Rep K F d v
  | [], _, _, e => by cases e
  | (i, d0) :: r, _, ⟨v, t, e, q, z⟩, h => by
    subst e
    unfold getKI at h
    by_cases hi : i = k
    · subst hi
      rw [if_pos rfl] at h
      cases h
      exact ⟨v, valV_pos rfl, q⟩
    · rw [if_neg hi] at h
      obtain ⟨u, e1, e2⟩ := RepK.get z h
      have h2 : ¬ (Sum.inl i : Key) = .inl k := fun z => hi (Sum.inl.inj z)
      exact ⟨u, by rw [valV_neg h2]; exact e1, e2⟩
/-! ### a table's code objects are no dicts -/
theorem code_ne {P : Program} {w : World} {c a : Addr} {q : Str} {xs : Xs} (e : c = a) : LamX.CodeO c q ≠ DX P w a xs := by
  subst e
  intro z
  have hf := HO.ext.inj z
  let h : Heap := { objs := Array.replicate (c + 1) { cls := .none, data := .fields #[.none, .str q 0] } }
  have hg : h.get? c = some { cls := .none, data := .fields #[.none, .str q 0] } := by
    show (match (Array.replicate (c + 1) ({ cls := .none, data := .fields #[.none, .str q 0] } : Obj))[c]? with | some ⟨_, _, .freed, _⟩ => none | o => o) = _
    rw [Array.getElem?_replicate, if_pos (by omega)]
  have hL : ∃ (oc : Obj) (vs : Array Value) (t : Tok), h.get? c = some oc ∧ oc.data = .fields vs ∧ vs[1]? = some (.str q t) := ⟨_, _, 0, hg, rfl, rfl⟩
  have hR := (congrFun hf h).mp hL
  obtain ⟨_, _, o, es, ep, h1, _, h3, _⟩ := hR
  rw [hg] at h1
  cases h1
  cases h3
theorem tab_dx {T : List (Addr × Str)} {H : Hp} {P : Program} {w : World} {p : Addr} {xs : Xs} {o : HO} (t : LamX.Tabs T H) (h : H p = some (DX P w p xs)) : LamX.Tabs T (upd H p o) := by
  intro q hq
  obtain ⟨ps, h1, h2⟩ := t q hq
  refine ⟨ps, by rw [upd_ne (ne_of h1 h (by simp [DX]))]; exact h1, h2.1, fun pos cv hc => ?_⟩
  obtain ⟨c, e1, e2⟩ := h2.2 pos cv hc
  refine ⟨c, e1, ?_⟩
  have hne : c ≠ p := fun z => by
    subst z
    rw [h] at e2
    exact code_ne rfl (Option.some.inj e2).symm
  rw [upd_ne hne]
  exact e2
end G
end
section
set_option Elab.async false
set_option linter.all false
set_option maxRecDepth 100000
set_option maxHeartbeats 1000000
namespace G
open PySem PySem.Spec PyProof.Rows L2
/-! ### data as the library's data -/
mutual
def toPy : D → PyData
  | .non => .none
  | .bl b => .bool b
  | .int i => .int i
  | .str s => .str (sS s)
  | .tup ds => .tuple (toPys ds)
  | .lst ds => .list (toPys ds)
def toPys : List D → List PyData
  | [] => []
  | d :: ds => toPy d :: toPys ds
end
theorem toPys_eq : ∀ ds : List D, toPys ds = ds.map toPy
  | [] => rfl
  | d :: ds => by rw [toPys, toPys_eq ds, List.map_cons]
mutual
theorem lay_toPy : ∀ d : D, (toPy d).plain = true
  | .non => rfl
  | .bl _ => rfl
  | .int _ => rfl
  | .str _ => rfl
  | .tup ds => by simp only [toPy, PyData.plain]; exact lay_toPys ds
  | .lst ds => by simp only [toPy, PyData.plain]; exact lay_toPys ds
theorem lay_toPys : ∀ ds : List D, PyData.plainAll (toPys ds) = true
  | [] => rfl
  | d :: ds => by simp only [toPys, PyData.plainAll, lay_toPy d, lay_toPys ds, Bool.and_self]
end
mutual
theorem depth_toPy : ∀ d : D, (toPy d).depth = depth d
  | .non => rfl
  | .bl _ => rfl
  | .int _ => rfl
  | .str _ => rfl
  | .tup ds => by simp only [toPy, PyData.depth, depth, depth_toPys ds]
  | .lst ds => by simp only [toPy, PyData.depth, depth, depth_toPys ds]
theorem depth_toPys : ∀ ds : List D, PyData.depthAll (toPys ds) = depths ds
  | [] => rfl
  | d :: ds => by simp only [toPys, PyData.depthAll, depths, depth_toPy d, depth_toPys ds]
end
theorem sS_beq (x y : List Nat) : (sS x == sS y) = (x == y) := by
  by_cases h : x = y
  · subst h; simp
  · have h2 : sS x ≠ sS y := fun e => h (by have := congrArg (fun z : Str => z.cps.toList) e; simpa using this)
    rw [beq_eq_false_iff_ne.mpr h, beq_eq_false_iff_ne.mpr h2]
mutual
theorem eqv_toPy : ∀ d e : D, PyData.eqv (toPy d) (toPy e) = eqD d e
  | .non, e => by cases e <;> rfl
  | .bl _, e => by cases e <;> rfl
  | .int _, e => by cases e <;> rfl
  | .str x, e => by
    cases e with
    | str y => simp only [toPy, PyData.eqv, eqD, sS_beq]
    | _ => rfl
  | .tup xs, e => by
    cases e with
    | tup ys => simp only [toPy, PyData.eqv, eqD, eqv_toPys xs ys]
    | _ => rfl
  | .lst xs, e => by
    cases e with
    | lst ys => simp only [toPy, PyData.eqv, eqD, eqv_toPys xs ys]
    | _ => rfl
theorem eqv_toPys : ∀ xs ys : List D, PyData.eqvAll (toPys xs) (toPys ys) = eqDs xs ys
  | [], [] => rfl
  | [], _ :: _ => rfl
  | _ :: _, [] => rfl
  | x :: xs, y :: ys => by simp only [toPys, PyData.eqvAll, eqDs, eqv_toPy x y, eqv_toPys xs ys]
end
mutual
theorem Rep.dp {K : PySem.W.Frag} {F H : Hp} (s : Sub F H) : ∀ (d : D) {v : V}, Rep K F d v → Dp K H v (toPy d)
  | .non, _, h => by rw [show _ = V.non from h]; exact .non
  | .bl _, _, h => by rw [show _ = V.bl _ from h]; exact .bl _
  | .int _, _, h => by rw [show _ = V.int _ from h]; exact .int _
  | .str _, _, h => by rw [show _ = V.str _ from h]; exact .str _
  | .tup ds, _, h => by
    obtain ⟨a, vs, rfl, q, r⟩ := h
    exact .tup (s.sqT q.1) (Reps.dp s ds r)
  | .lst ds, _, h => by
    obtain ⟨a, vs, rfl, q, r⟩ := h
    exact .lst (SqL.of (s _ _ q)) (Reps.dp s ds r)
theorem Reps.dp {K : PySem.W.Frag} {F H : Hp} (s : Sub F H) : ∀ (ds : List D) {vs : List V}, Reps K F ds vs → DpAll K H vs (toPys ds)
  | [], _, h => by rw [show _ = [] from h]; exact .nil
  | d :: ds, _, h => by
    obtain ⟨v, r, rfl, q, t⟩ := h
    exact .cons (Rep.dp s d q) (Reps.dp s ds t)
end
theorem RepP.dp {M : Mw} {g : Gh} {H : Hp} {s : Sto} (w : WOk M g H s) {d : D} {v : V} (h : RepP M g H (.d d) v) : Dp M.K H v (toPy d) := by
  cases d with
  | lst ds =>
    rcases h with h | ⟨a, vs, e, h1, h2, h3, h4⟩
    · exact Rep.dp w.sub (.lst ds) h
    · rw [e]
      exact .lst (SqL.of h1) (Reps.dp w.sub ds h4)
  | _ => exact Rep.dp w.sub _ h
theorem RepP.reads {X : Cx} {M : Mw} (hK : X.K = M.K) {g : Gh} {H : Hp} {st : Sto} (w : WOk M g H st) {pins : List (Addr × Obj)} {s : Shared} {σ : L2.St} (I : Inv X pins σ H s) {d : D} {v : V} {u : Value} (h : RepP M g H (.d d) v) (r : RelV v u) : ∃ as, Reads s.heap u (toPy d) as := by
  have h1 := h.dp w
  rw [← hK] at h1
  exact Dp.reads I (toPy d) v u h1 r
theorem room1 {X : Cx} {L : Nat} (hr : Room L X.A) {d e : D} (h : depthOk d e = true) : X.A.units + 1 + min (toPy d).depth (toPy e).depth < cLine := by
  have h1 := hr.units
  rw [depth_toPy, depth_toPy]
  have h2 : min (depth d) (depth e) ≤ 60 := of_decide_eq_true h
  omega

section
variable {X : Cx} {M : Mw} {Φ : Nat → Option Fn} {E : XK} {a b c : Expr} {ca cb cc : C} {pos p : Pos} {L : Nat}
/-- what a comparison asks, by data -/
def rDat (X : Cx) (M : Mw) (E : XK) (o : Cop) : R2 := fun v u H Q => ∃ g s x y, WOk M g H s ∧ RepP M g H x v ∧ RepP M g H y u ∧ Post M E (cmpR o x y s) g H Q
theorem imp_dat {o : Cop} {σ : L2.St} {H : Hp} {Q : VK} (q : tC M Φ (.cmp o ca cb) E σ H Q) : tOp (rDat X M E o) (tP M Φ ca E) (tP M Φ cb E) σ H Q := by
  obtain ⟨g, H0, δ, s, w, so, h⟩ := q
  unfold evC at h
  refine tP.bind w so h fun v H1 g1 x s1 l1 w1 so1 r1 h1 => ?_
  refine tP.bind w1 so1 h1 fun u H2 g2 y s2 l2 w2 so2 r2 h2 => ?_
  exact ⟨g2, s2, x, y, w2, r1.mono l2, r2, h2⟩
theorem op_of {op : CmpOp} {o : Cop} (h : ∀ (g : Gh) (st : Sto) (x y : W) (pins : List (Addr × Obj)) (s : Shared) (σ : L2.St) (H : Hp) (v u : V) (vv uv : Value) (Q : VK), WOk M g H st → RepP M g H x v → RepP M g H y u → Post M E (cmpR o x y st) g H Q →
    Inv X pins σ H s → RelV v vv → RelV u uv → wpAny (model X.prog X.w) X.A (compareOp op vv uv) (EP X pins σ Q) X.xe s) : OpR X (compareOp op) (rDat X M E o) :=
  fun pins s σ H v u vv uv Q I r1 r2 ⟨g, st, x, y, w, q1, q2, q3⟩ => h g st x y pins s σ H v u vv uv Q w q1 q2 q3 I r1 r2
theorem ep_bl {b : Bool} {st : Sto} {g : Gh} {pins : List (Addr × Obj)} {s : Shared} {σ : L2.St} {H : Hp} {Q : VK} (w : WOk M g H st) (h : Post M E (blR b st) g H Q) (I : Inv X pins σ H s) : EP X pins σ Q (.bool b) s := ⟨.bl b, H, I, rfl, Post.bl w h⟩
theorem o_eq (hK : X.K = M.K) (hr : Room L X.A) : OpR X (compareOp .Eq) (rDat X M E .eq) := by
  refine op_of fun g st x y pins s σ H v u vv uv Q w q1 q2 h I r1 r2 => ?_
  cases x with
  | d x =>
    cases y with
    | d y =>
      simp only [cmpR] at h
      split at h
      · rename_i hd
        obtain ⟨as, h1⟩ := q1.reads hK w I r1
        obtain ⟨bs, h2⟩ := q2.reads hK w I r2
        refine SeqAt.eq_plain h1 h2 (lay_toPy x) (lay_toPy y) (by have := room1 hr hd; omega) ?_
        rw [eqv_toPy]
        exact ep_bl w h I
      · exact False.elim h
    | _ => exact False.elim h
  | _ => exact False.elim h
theorem o_ne (hK : X.K = M.K) (hr : Room L X.A) : OpR X (compareOp .NotEq) (rDat X M E .ne) := by
  refine op_of fun g st x y pins s σ H v u vv uv Q w q1 q2 h I r1 r2 => ?_
  cases x with
  | d x =>
    cases y with
    | d y =>
      simp only [cmpR] at h
      split at h
      · rename_i hd
        obtain ⟨as, h1⟩ := q1.reads hK w I r1
        obtain ⟨bs, h2⟩ := q2.reads hK w I r2
        refine SeqAt.ne_plain h1 h2 (lay_toPy x) (lay_toPy y) (by have := room1 hr hd; omega) ?_
        rw [eqv_toPy]
        exact ep_bl w h I
      · exact False.elim h
    | _ => exact False.elim h
  | _ => exact False.elim h

theorem RepP.int {g : Gh} {H : Hp} {i : Int} {v : V} (h : RepP M g H (.d (.int i)) v) : v = .int i := h
theorem RepP.str {g : Gh} {H : Hp} {i : List Nat} {v : V} (h : RepP M g H (.d (.str i)) v) : v = .str (sS i) := h
theorem o_int {op : CmpOp} {o : Cop} {f : Int → Int → Bool} (rule : OpR X (compareOp op) (rI0 fun i j => .bl (f i j))) (hf : ∀ i j s, cmpR o (.d (.int i)) (.d (.int j)) s = blR (f i j) s)
    (hb : ∀ x y s, (∀ i j, ¬ (x = .d (.int i) ∧ y = .d (.int j))) → cmpR o x y s = .bad) : OpR X (compareOp op) (rDat X M E o) := by
  intro pins s σ H v u vv uv Q I r1 r2 ⟨g, st, x, y, w, q1, q2, h⟩
  by_cases e : ∃ i j, x = .d (.int i) ∧ y = .d (.int j)
  · obtain ⟨i, j, rfl, rfl⟩ := e
    rw [hf] at h
    exact rule pins s σ H v u vv uv Q I r1 r2 ⟨i, j, q1.int, q2.int, Post.bl w h⟩
  · rw [hb x y st fun i j z => e ⟨i, j, z⟩] at h
    exact False.elim h
theorem o_le : OpR X (compareOp .LtE) (rDat X M E .le) := o_int op_le (fun _ _ _ => rfl) fun x y s h => by
  unfold cmpR; split <;> first | rfl | (rename_i i j; exact absurd ⟨rfl, rfl⟩ (h _ _)) | skip
  all_goals simp_all
theorem o_gt : OpR X (compareOp .Gt) (rDat X M E .gt) := o_int op_gt (fun _ _ _ => rfl) fun x y s h => by
  unfold cmpR; split <;> first | rfl | (rename_i i j; exact absurd ⟨rfl, rfl⟩ (h _ _)) | skip
  all_goals simp_all
theorem o_ge : OpR X (compareOp .GtE) (rDat X M E .ge) := o_int op_ge (fun _ _ _ => rfl) fun x y s h => by
  unfold cmpR; split <;> first | rfl | (rename_i i j; exact absurd ⟨rfl, rfl⟩ (h _ _)) | skip
  all_goals simp_all
/-! is None -/
theorem rep_non {g : Gh} {H : Hp} {d : D} {v : V} (h : RepP M g H (.d d) v) : decide (v = .non) = isNon d := by
  cases d with
  | non => rw [show v = _ from h]; rfl
  | bl b => rw [show v = _ from h]; rfl
  | int i => rw [show v = _ from h]; rfl
  | str x => rw [show v = _ from h]; rfl
  | tup ds => obtain ⟨a, vs, rfl, _⟩ := h; rfl
  | lst ds =>
    rcases h with ⟨a, vs, rfl, _⟩ | ⟨a, vs, rfl, _⟩ <;> rfl
theorem o_isN : OpR X (compareOp .Is) (rDat X M E .isN) := by
  intro pins s σ H v u vv uv Q I r1 r2 ⟨g, st, x, y, w, q1, q2, h⟩
  cases x with
  | d x =>
    cases y with
    | d y =>
      cases y with
      | non => exact op_isN pins s σ H v u vv uv Q I r1 r2 ⟨q2, by rw [rep_non q1]; exact Post.bl w h⟩
      | _ => exact False.elim h
    | _ => exact False.elim h
  | _ => exact False.elim h
theorem o_notN : OpR X (compareOp .IsNot) (rDat X M E .notN) := by
  intro pins s σ H v u vv uv Q I r1 r2 ⟨g, st, x, y, w, q1, q2, h⟩
  cases x with
  | d x =>
    cases y with
    | d y =>
      cases y with
      | non => exact op_notN pins s σ H v u vv uv Q I r1 r2 ⟨q2, by rw [rep_non q1]; exact Post.bl w h⟩
      | _ => exact False.elim h
    | _ => exact False.elim h
  | _ => exact False.elim h
/-! in, not in -/
theorem inD_py (x : D) (ds : List D) : ((toPys ds).any fun y => PyData.eqv y (toPy x)) = inD x ds := by
  rw [toPys_eq, List.any_map]
  unfold inD
  congr 1
  funext y
  exact eqv_toPy y x
theorem roomIn {L : Nat} (hr : Room L X.A) {x : D} {ds : List D} (h : depthOk x (.lst ds) = true) : X.A.units + 1 + min (PyData.depthAll (toPys ds)) (toPy x).depth < cLine := by
  have h1 := hr.units
  rw [depth_toPy, depth_toPys]
  have h2 : min (depth x) (depths ds + 1) ≤ 60 := of_decide_eq_true h
  omega
theorem roomIn' {L : Nat} (hr : Room L X.A) {x : D} {ds : List D} (h : depthOk x (.tup ds) = true) : X.A.units + 1 + min (PyData.depthAll (toPys ds)) (toPy x).depth < cLine := by
  have h1 := hr.units
  rw [depth_toPy, depth_toPys]
  have h2 : min (depth x) (depths ds + 1) ≤ 60 := of_decide_eq_true h
  omega
theorem hasSign_cases {c x : List Nat} {b : Bool} (h : hasSign c x = some b) : ∃ n, c = [n] ∧ b = decide (n ∈ x) := by
  unfold hasSign at h
  split at h
  · rename_i n
    cases h
    refine ⟨n, rfl, ?_⟩
    by_cases hn : n ∈ x <;> simp [hn]
  · cases h
theorem o_in (hP : X.prog = M.P) (hw : X.w = M.w) (hK : X.K = M.K) (hr : Room L X.A) : OpR X (compareOp .In) (rDat X M E .isIn) := by
  refine op_of fun g st x y pins s σ H v u vv uv Q w q1 q2 h I r1 r2 => ?_
  cases x with
  | d x =>
    cases y with
    | d y =>
      cases y with
      | str y =>
        cases x with
        | str x =>
          simp only [cmpR] at h
          cases e : hasSign x y with
          | none => rw [e] at h; exact False.elim h
          | some b =>
            rw [e] at h
            obtain ⟨n, rfl, rfl⟩ := hasSign_cases e
            exact op_in_sign pins s σ H v u vv uv Q I r1 r2 ⟨n, sS y, q1.str, q2.str, Post.bl w h⟩
        | _ => exact False.elim h
      | lst y =>
        have h : Post M E (if depthOk x (.lst y) then blR (inD x y) st else .bad) g H Q := by
          revert h; cases x <;> exact fun h => h
        split at h
        · rename_i hd
          obtain ⟨as, h1⟩ := q1.reads hK w I r1
          obtain ⟨bs, h2⟩ := q2.reads hK w I r2
          refine SeqAt.in_list_data h2 h1 (lay_toPys y) (lay_toPy x) (roomIn hr hd) ?_
          rw [inD_py]
          exact ep_bl w h I
        · exact False.elim h
      | tup y =>
        have h : Post M E (if depthOk x (.tup y) then blR (inD x y) st else .bad) g H Q := by
          revert h; cases x <;> exact fun h => h
        split at h
        · rename_i hd
          obtain ⟨as, h1⟩ := q1.reads hK w I r1
          obtain ⟨bs, h2⟩ := q2.reads hK w I r2
          refine SeqAt.in_tuple_data h2 h1 (lay_toPys y) (lay_toPy x) (roomIn' hr hd) ?_
          rw [inD_py]
          exact ep_bl w h I
        · exact False.elim h
      | _ => cases x <;> exact False.elim h
    | dct kvs =>
      cases x with
      | tup is =>
        simp only [cmpR] at h
        split at h
        · rename_i hk
          obtain ⟨is', ks, b, e, hi, rfl, hb⟩ := keyT_rep hk (show Rep M.K g.F (.tup is) v from q1)
          cases e
          obtain ⟨a, xs, rfl, hd, hx⟩ := q2.dx w
          cases (show vv = Value.ref b from r1)
          cases (show uv = Value.ref a from r2)
          rw [← hP, ← hw] at hd
          refine dx_in (by have := hr.units; omega) I hd (by rw [hK]; exact hx.keys.up w) (by rw [hK]; exact hb.mono' w) fun s' I' => ⟨.bl (atKey xs ks).isSome, H, I', rfl, ?_⟩
          rw [RepT.has hi hx] at h
          exact Post.bl w h
        · exact False.elim h
      | _ => exact False.elim h
    | dci kvs =>
      cases x with
      | int i =>
        obtain ⟨a, kv, rfl, hd, hx⟩ := (show RepW M g (.dci kvs) u from q2)
        have hv : v = V.int i := q1
        subst hv
        cases (show uv = Value.ref a from r2)
        refine d_in (o := valV kv (.inl i)) (by have := hr.units; omega) I (.inl ⟨kv, .inl i, .inl (w.sub _ _ hd), rfl, rfl⟩) r1 fun s' I' => ⟨.bl (valV kv (.inl i)).isSome, H, I', rfl, ?_⟩
        simp only [cmpR] at h
        rw [RepK.has hx] at h
        exact Post.bl w h
      | _ => exact False.elim h
    | _ => cases x <;> exact False.elim h
  | _ => exact False.elim h
theorem o_notIn (hP : X.prog = M.P) (hw : X.w = M.w) (hK : X.K = M.K) (hr : Room L X.A) : OpR X (compareOp .NotIn) (rDat X M E .notIn) := by
  refine op_of fun g st x y pins s σ H v u vv uv Q w q1 q2 h I r1 r2 => ?_
  cases x with
  | d x =>
    cases y with
    | d y =>
      cases y with
      | str y =>
        cases x with
        | str x =>
          simp only [cmpR] at h
          cases e : hasSign x y with
          | none => rw [e] at h; exact False.elim h
          | some b =>
            rw [e] at h
            obtain ⟨n, rfl, rfl⟩ := hasSign_cases e
            exact op_notIn_sign pins s σ H v u vv uv Q I r1 r2 ⟨n, sS y, q1.str, q2.str, Post.bl w h⟩
        | _ => exact False.elim h
      | lst y =>
        have h : Post M E (if depthOk x (.lst y) then blR (!inD x y) st else .bad) g H Q := by
          revert h; cases x <;> exact fun h => h
        split at h
        · rename_i hd
          obtain ⟨as, h1⟩ := q1.reads hK w I r1
          obtain ⟨bs, h2⟩ := q2.reads hK w I r2
          refine SeqAt.notIn_list_data h2 h1 (lay_toPys y) (lay_toPy x) (roomIn hr hd) ?_
          rw [inD_py]
          exact ep_bl w h I
        · exact False.elim h
      | tup y =>
        have h : Post M E (if depthOk x (.tup y) then blR (!inD x y) st else .bad) g H Q := by
          revert h; cases x <;> exact fun h => h
        split at h
        · rename_i hd
          obtain ⟨as, h1⟩ := q1.reads hK w I r1
          obtain ⟨bs, h2⟩ := q2.reads hK w I r2
          refine SeqAt.notIn_tuple_data h2 h1 (lay_toPys y) (lay_toPy x) (roomIn' hr hd) ?_
          rw [inD_py]
          exact ep_bl w h I
        · exact False.elim h
      | _ => cases x <;> exact False.elim h
    | dct kvs =>
      cases x with
      | tup is =>
        simp only [cmpR] at h
        split at h
        · rename_i hk
          obtain ⟨is', ks, b, e, hi, rfl, hb⟩ := keyT_rep hk (show Rep M.K g.F (.tup is) v from q1)
          cases e
          obtain ⟨a, xs, rfl, hd, hx⟩ := q2.dx w
          cases (show vv = Value.ref b from r1)
          cases (show uv = Value.ref a from r2)
          rw [← hP, ← hw] at hd
          refine dx_notIn (by have := hr.units; omega) I hd (by rw [hK]; exact hx.keys.up w) (by rw [hK]; exact hb.mono' w) fun s' I' => ⟨.bl (!(atKey xs ks).isSome), H, I', rfl, ?_⟩
          rw [RepT.has hi hx] at h
          exact Post.bl w h
        · exact False.elim h
      | _ => exact False.elim h
    | dci kvs =>
      cases x with
      | int i =>
        obtain ⟨a, kv, rfl, hd, hx⟩ := (show RepW M g (.dci kvs) u from q2)
        have hv : v = V.int i := q1
        subst hv
        cases (show uv = Value.ref a from r2)
        refine d_notIn (o := valV kv (.inl i)) (by have := hr.units; omega) I (.inl ⟨kv, .inl i, .inl (w.sub _ _ hd), rfl, rfl⟩) r1 fun s' I' => ⟨.bl (!(valV kv (.inl i)).isSome), H, I', rfl, ?_⟩
        simp only [cmpR] at h
        rw [RepK.has hx] at h
        exact Post.bl w h
      | _ => exact False.elim h
    | _ => cases x <;> exact False.elim h
  | _ => exact False.elim h
/-! the rules -/
theorem s_cmp {op : CmpOp} {o : Cop} (ho : OpR X (compareOp op) (rDat X M E o)) (ha : PE X a (tP M Φ ca E)) (hb : PE X b (tP M Φ cb E)) (hm : behindInMarks op b = false) : PE X (.Compare a [op] [b] pos) (tC M Φ (.cmp o ca cb) E) :=
  (pe_cmpR ho ha hb hm).imp fun _ _ _ q => imp_dat q
theorem cmpR_truth (o : Cop) (x y : W) (s : Sto) : cmpR o x y s = .bad ∨ ∃ b, cmpR o x y s = blR b s := by
  unfold cmpR
  split <;> first | exact .inr ⟨_, rfl⟩ | exact .inl rfl | (split <;> first | exact .inr ⟨_, rfl⟩ | exact .inl rfl)
theorem Post.test {r : Res W} {g : Gh} {H : Hp} {Q : Bool → Hp → Prop} (h : PostG M E (fun _ _ (w : W) (b : Bool) => truth w = some b) (r.bind fun w s => if (truth w).isSome then .ok w s else .bad) g H Q) (hr : ∀ w s, r = .ok w s → ∃ b, w = .d (.bl b)) :
    Post M E r g H (fun x H' => ∃ k, x = .bl k ∧ Q k H') := by
  cases r with
  | ok w s =>
    obtain ⟨b, rfl⟩ := hr w s rfl
    exact fun v g' H' l w' q => ⟨b, q, h b g' H' l w' rfl⟩
  | exc c s => exact h
  | bad => exact h
theorem t_cmp {op : CmpOp} {o : Cop} (ho : OpR X (compareOp op) (rDat X M E o)) (ha : PE X a (tP M Φ ca E)) (hb : PE X b (tP M Φ cb E)) (hm : behindInMarks op b = false) : PT X (.Compare a [op] [b] pos) (tT M Φ (.cmp o ca cb) E) := by
  refine (pt_cmpR ho ha hb hm).imp fun σ H Q ⟨g, H0, δ, s, w, so, h⟩ => ?_
  refine imp_dat ⟨g, H0, δ, s, w, so, Post.test h fun x s' e => ?_⟩
  unfold evC at e
  cases e1 : peek ca δ s (evC M.gl Φ ca δ s) with
  | ok x1 s1 =>
    rw [e1] at e
    have e : (peek cb δ s1 (evC M.gl Φ cb δ s1)).bind (fun y s => cmpR o x1 y s) = .ok x s' := e
    cases e2 : peek cb δ s1 (evC M.gl Φ cb δ s1) with
    | ok x2 s2 =>
      rw [e2] at e
      have e : cmpR o x1 x2 s2 = .ok x s' := e
      rcases cmpR_truth o x1 x2 s2 with z | ⟨b, z⟩
      · rw [z] at e; cases e
      · rw [z] at e; cases e; exact ⟨b, rfl⟩
    | exc c s => rw [e2] at e; cases e
    | bad => rw [e2] at e; cases e
  | exc c s => rw [e1] at e; cases e
  | bad => rw [e1] at e; cases e
/-- a chain of two, of ints -/
theorem imp_chain {o p : Cop} {σ : L2.St} {H : Hp} {Q : VK} (q : tC M Φ (.chain o p ca cb cc) E σ H Q) : tChain (rDat X M E o) (rDat X M E p) (tC M Φ ca E) (tC M Φ cb E) (tC M Φ cc E) σ H Q := by
  obtain ⟨g, H0, δ, s, w, so, h⟩ := q
  unfold evC at h
  refine tC.bind w so h fun v H1 g1 x s1 l1 w1 so1 r1 h1 => ?_
  refine tC.bind w1 so1 h1 fun u H2 g2 y s2 l2 w2 so2 r2 h2 => ?_
  rcases cmpR_truth o x y s2 with z | ⟨k, z⟩
  · rw [z] at h2; exact False.elim h2
  · refine ⟨g2, s2, x, y, w2, .of (r1.mono l2), .of r2, ?_⟩
    rw [z] at h2 ⊢
    refine fun z3 g3 H3 l3 w3 r3 => ⟨k, r3, ?_⟩
    have h3 := PostG.later h2 l3
    cases k with
    | true =>
      rw [if_pos rfl]
      refine tC.bind w3 (so2.later l3) h3 fun z4 H4 g4 z s4 l4 w4 so4 r4 h4 => ?_
      exact ⟨g4, s4, y, z, w4, .of ((r2.mono l3).mono l4), .of r4, h4⟩
    | false => exact Post.bl w3 h3
theorem s_chain {op op' : CmpOp} {o p' : Cop} (ho : OpR X (compareOp op) (rDat X M E o)) (ho' : OpR X (compareOp op') (rDat X M E p')) (ha : PE X a (tC M Φ ca E)) (hb : PE X b (tC M Φ cb E)) (hc : PE X c (tC M Φ cc E)) (hm : lastMarks [op, op'] [b, c] = false) :
    PE X (.Compare a [op, op'] [b, c] pos) (tC M Φ (.chain o p' ca cb cc) E) := (pe_chain ho ho' ha hb hc hm).imp fun _ _ _ q => imp_chain q
theorem t_chain {op op' : CmpOp} {o p' : Cop} (ho : OpR X (compareOp op) (rDat X M E o)) (ho' : OpR X (compareOp op') (rDat X M E p')) (ha : PE X a (tC M Φ ca E)) (hb : PE X b (tC M Φ cb E)) (hc : PE X c (tC M Φ cc E)) (hm : lastMarks [op, op'] [b, c] = false) :
    PT X (.Compare a [op, op'] [b, c] pos) (tT M Φ (.chain o p' ca cb cc) E) := by
  refine (pt_chain ho ho' ha hb hc hm).imp fun σ H Q ⟨g, H0, δ, s, w, so, h⟩ => ?_
  refine imp_chain ⟨g, H0, δ, s, w, so, Post.test h fun x s' e => ?_⟩
  unfold evC at e
  cases e1 : evC M.gl Φ ca δ s with
  | ok x1 s1 =>
    rw [e1] at e
    simp only [Res.bind] at e
    cases e2 : evC M.gl Φ cb δ s1 with
    | ok x2 s2 =>
      rw [e2] at e
      simp only [Res.bind] at e
      rcases cmpR_truth o x1 x2 s2 with z | ⟨b, z⟩
      · rw [z] at e; cases e
      · rw [z] at e
        cases b with
        | true =>
          simp only [blR] at e
          cases e3 : evC M.gl Φ cc δ s2 with
          | ok x3 s3 =>
            rw [e3] at e
            simp only [Res.bind] at e
            rcases cmpR_truth p' x2 x3 s3 with z | ⟨b, z⟩
            · rw [z] at e; cases e
            · rw [z] at e; cases e; exact ⟨b, rfl⟩
          | exc c s => rw [e3] at e; cases e
          | bad => rw [e3] at e; cases e
        | false => cases e; exact ⟨false, rfl⟩
    | exc c s => rw [e2] at e; cases e
    | bad => rw [e2] at e; cases e
  | exc c s => rw [e1] at e; cases e
  | bad => rw [e1] at e; cases e
end
end G
end
section
set_option Elab.async false
set_option linter.all false
set_option maxRecDepth 100000
set_option maxHeartbeats 1000000
namespace G
open PySem PySem.Spec PyProof.Rows L2
/-! ### < of alike data -/
theorem ltN_eq : ∀ x y : List Nat, ltN x y = decide (x < y)
  | [], [] => by simp [ltN]
  | _ :: _, [] => by simp [ltN]
  | [], _ :: _ => by simp [ltN]
  | a :: x, b :: y => by
    rw [ltN, ltN_eq x y]
    by_cases h1 : a < b
    · rw [if_pos h1]
      simp [List.cons_lt_cons_iff, h1]
    · rw [if_neg h1]
      by_cases h2 : b < a
      · rw [if_pos h2]
        have h3 : ¬ a = b := by omega
        simp [List.cons_lt_cons_iff, h1, h3]
      · rw [if_neg h2]
        have h3 : a = b := by omega
        subst h3
        simp [List.cons_lt_cons_iff]
mutual
theorem alike_py : ∀ d e : D, alike d e = true → W.alike (toPy d) (toPy e) = true
  | .int _, e, h => by cases e <;> first | rfl | cases h
  | .str _, e, h => by cases e <;> first | rfl | cases h
  | .tup xs, e, h => by
    cases e with
    | tup ys => simp only [toPy, W.alike]; exact alikes_py xs ys h
    | _ => cases h
  | .lst xs, e, h => by
    cases e with
    | lst ys => simp only [toPy, W.alike]; exact alikes_py xs ys h
    | _ => cases h
  | .non, _, h => by cases h
  | .bl _, _, h => by cases h
theorem alikes_py : ∀ xs ys : List D, alikes xs ys = true → W.alikeAll (toPys xs) (toPys ys) = true
  | [], ys, _ => by cases ys <;> rfl
  | _ :: _, [], _ => rfl
  | x :: xs, y :: ys, h => by
    simp only [alikes, Bool.and_eq_true] at h
    simp only [toPys, W.alikeAll, alike_py x y h.1, alikes_py xs ys h.2, Bool.and_self]
end
mutual
theorem lt_py : ∀ d e : D, alike d e = true → W.dataLt (toPy d) (toPy e) = ltD d e
  | .int i, e, h => by
    cases e with
    | int j => exact W.dataLt_int i j
    | _ => cases h
  | .str x, e, h => by
    cases e with
    | str y =>
      show W.dataLt (.str (sS x)) (.str (sS y)) = ltN x y
      rw [W.dataLt_str, ltN_eq]
    | _ => cases h
  | .tup xs, e, h => by
    cases e with
    | tup ys =>
      show W.dataLt (.tuple (toPys xs)) (.tuple (toPys ys)) = ltDs xs ys
      rw [W.dataLt_tuple]
      exact lts_py xs ys h
    | _ => cases h
  | .lst xs, e, h => by
    cases e with
    | lst ys =>
      show W.dataLt (.list (toPys xs)) (.list (toPys ys)) = ltDs xs ys
      rw [W.dataLt_list]
      exact lts_py xs ys h
    | _ => cases h
  | .non, _, h => by cases h
  | .bl _, _, h => by cases h
theorem lts_py : ∀ xs ys : List D, alikes xs ys = true → PyProof.Rows.lexLt itemOrd (W.keyToksAll (toPys xs)) (W.keyToksAll (toPys ys)) = ltDs xs ys
  | [], [], _ => by rfl
  | [], y :: ys, _ => by rfl
  | x :: xs, [], _ => by rfl
  | x :: xs, y :: ys, h => by
    simp only [alikes, Bool.and_eq_true] at h
    have h1 := alike_py x y h.1
    show PyProof.Rows.lexLt itemOrd (W.keyToksAll (toPy x :: toPys xs)) (W.keyToksAll (toPy y :: toPys ys)) = _
    unfold ltDs
    by_cases e : eqD x y = true
    · rw [if_pos e, W.dataLt_all_yes h1 (by rw [eqv_toPy]; exact e)]
      exact lts_py xs ys h.2
    · rw [if_neg e, W.dataLt_all_no h1 (by rw [eqv_toPy]; simpa using e)]
      exact lt_py x y h.1
end
section
variable {X : Cx} {M : Mw} {Φ : Nat → Option Fn} {E : XK} {L : Nat}
theorem o_lt (hK : X.K = M.K) (hr : Room L X.A) : OpR X (compareOp .Lt) (rDat X M E .lt) := by
  refine op_of fun g st x y pins s σ H v u vv uv Q w q1 q2 h I r1 r2 => ?_
  cases x with
  | d x =>
    cases y with
    | d y =>
      cases x with
      | int i =>
        cases y with
        | int j => exact op_lt pins s σ H v u vv uv Q I r1 r2 ⟨i, j, q1.int, q2.int, Post.bl w h⟩
        | _ => exact False.elim h
      | tup x =>
        cases y with
        | tup y =>
          simp only [cmpR] at h
          split at h
          · rename_i hd
            rw [Bool.and_eq_true] at hd
            obtain ⟨as, h1⟩ := q1.reads hK w I r1
            obtain ⟨bs, h2⟩ := q2.reads hK w I r2
            have ha : alike (.tup x) (.tup y) = true := hd.1
            have hlt := W.rcLt_alike (toPy (.tup x)) (toPy (.tup y)) X.A s vv uv as bs h1 h2 (alike_py _ _ ha) (by intro z; cases z) (by have := room1 hr hd.2; omega)
            rw [lt_py _ _ ha] at hlt
            exact hlt X.prog X.w X.xe _ (ep_bl w h I)
          · exact False.elim h
        | _ => exact False.elim h
      | _ => exact False.elim h
    | _ => cases x <;> exact False.elim h
  | _ => exact False.elim h

/-! ### what is subscripted -/
theorem place_eq (n : Nat) (i : Int) : place n i = ixN n i := rfl
theorem getI_eq {α : Type} (xs : List α) (i : Int) : getI xs i = atI xs i := rfl
theorem getI_rep {K : PySem.W.Frag} {F : Hp} {ds : List D} {vs : List V} {i : Int} {d : D} (h : Reps K F ds vs) (e : getI ds i = some d) : ∃ v, atI vs i = some v ∧ Rep K F d v := by
  unfold getI at e
  unfold atI
  rw [h.length]
  cases q : place ds.length i with
  | none => rw [q] at e; cases e
  | some j =>
    rw [q] at e
    obtain ⟨v, h1, h2⟩ := h.get (i := j) (d := d) e
    refine ⟨v, ?_, h2⟩
    rw [← place_eq, q]
    exact h1
def rIxD (M : Mw) (E : XK) : R2 := fun v u H Q => ∃ g s x y, WOk M g H s ∧ RepP M g H x v ∧ RepW M g y u ∧ Post M E (ixR x y s) g H Q
theorem RepP.lst {g : Gh} {H : Hp} {s : Sto} {ds : List D} {v : V} (w : WOk M g H s) (h : RepP M g H (.d (.lst ds)) v) : ∃ a vs, v = .ref a ∧ H a = some (.lst vs) ∧ Reps M.K g.F ds vs := by
  rcases h with ⟨a, vs, h1, h2, h3⟩ | ⟨a, vs, h1, h2, _, _, h3⟩
  · exact ⟨a, vs, h1, w.sub _ _ h2, h3⟩
  · exact ⟨a, vs, h1, h2, h3⟩
theorem tail_dict {Q : Value → Shared → Prop} {Y : Value → Shared → Prop} {A : Around} {P : Program} {w : World} {s : Shared} {value slice : Expr} {o i : Value} {T id : String} (hT : s.TypeIs o T) (hl : typeLookup (.type T) "__getitem__" = pure (some (.builtin id))) (hs : subscripted slice false o i = operate [o, i] (getItem o i))
    (h : wpAny (model P w) A (getItem o i) Q Y s) : wpAny (model P w) A (subscriptTail value slice o i) Q Y s := by
  unfold subscriptTail
  refine wpAny_bind ?_
  rw [getitemInPython_of_ne hT.not_modules]
  refine wpAny_bind (wpAny_specialOf hT hl ?_)
  have fin : wpAny (model P w) A (subscripted slice false o i) (fun r s₃ => wpAny (model P w) A (letTemporaryGo value o r >>= fun _ => pure r) Q Y s₃) Y s := by
    rw [hs]
    exact wpAny_operating (wpAny_mono h (fun r s₃ h₃ => wpAny_bind (wpAny_letTemporaryGo (wpAny_pure h₃))) fun _ _ x => x)
  first
    | exact wpAny_pure (wpAny_bind fin)
    | exact wpAny_bind (wpAny_pure (wpAny_bind fin))
    | exact wpAny_bind fin
theorem ix_dat (hu : X.A.units + 1 < cLine) (hK : X.K = M.K) : IxR X (rIxD M E) := by
  intro value slice pins s σ H v u vv uv Q I r1 r2 ⟨g, st, x, y, w, q1, q2, h⟩ hs
  cases x with
  | d x =>
    cases y with
    | d y =>
      cases x with
      | tup ds =>
        cases y with
        | int n =>
          simp only [ixR] at h
          cases e : getI ds n with
          | none => rw [e] at h; exact False.elim h
          | some d =>
            rw [e] at h
            obtain ⟨a, vs, h1, h2, h3⟩ := q1
            obtain ⟨z, h4, h5⟩ := getI_rep h3 e
            exact ix_tup value slice pins s σ H v u vv uv Q I r1 r2 ⟨a, vs, n, z, h1, q2, by rw [hK]; exact h2.mono' w, h4, Post.pure w h h5⟩ hs
        | _ => exact False.elim h
      | lst ds =>
        cases y with
        | int n =>
          simp only [ixR] at h
          cases e : getI ds n with
          | none => rw [e] at h; exact False.elim h
          | some d =>
            rw [e] at h
            obtain ⟨a, vs, h1, h2, h3⟩ := q1.lst w
            obtain ⟨z, h4, h5⟩ := getI_rep h3 e
            exact ix_list value slice pins s σ H v u vv uv Q I r1 r2 ⟨a, vs, n, z, h1, q2, SqL.of h2, h4, Post.pure w h h5⟩ hs
        | _ => exact False.elim h
      | str x =>
        cases y with
        | int n =>
          simp only [ixR] at h
          split at h
          · rename_i hl
            split at h
            · rename_i c e
              exact ix_str value slice pins s σ H v u vv uv Q I r1 r2 ⟨sS x, n, c, q1, q2, by rw [sS_len, ← lim_eq]; exact hl, by rw [← getI_eq]; exact e, Post.pure w h rfl⟩ hs
            · exact False.elim h
          · exact False.elim h
        | _ => exact False.elim h
      | _ => cases y <;> exact False.elim h
    | _ => cases x <;> exact False.elim h
  | dct kvs => cases y <;> exact False.elim h
  | dci kvs =>
    cases y with
    | d y =>
      cases y with
      | int n =>
        simp only [ixR] at h
        cases e : getKI kvs n with
        | none => rw [e] at h; exact False.elim h
        | some d =>
          rw [e] at h
          obtain ⟨a, kv, rfl, hd, hx⟩ := (show RepW M g (.dci kvs) v from q1)
          obtain ⟨z, h4, h5⟩ := hx.get e
          have hv : u = V.int n := q2
          subst hv
          cases (show vv = Value.ref a from r1)
          have hg : DGet H a (.int n) (some z) := .inl ⟨kv, .inl n, .inl (w.sub _ _ hd), rfl, h4.symm⟩
          exact tail_dict (dict_typeIs I hg) PySem.F.slot_dict_getitem.lookup hs (d_getItem hu I hg r2 fun w' s3 I3 rw' => ⟨z, H, I3, rw', Post.pure w h h5⟩)
      | _ => exact False.elim h
    | _ => exact False.elim h
  | dice =>
    cases y with
    | d y =>
      cases y with
      | int n =>
        simp only [ixR] at h
        cases e : st.dice with
        | none => rw [e] at h; exact False.elim h
        | some cm =>
          obtain ⟨c, m⟩ := cm
          rw [e] at h
          obtain ⟨h1, h2⟩ := w.dice c m e
          by_cases h0 : n = 0
          · subst h0
            simp only [if_pos rfl] at h
            exact ix_list value slice pins s σ H v u vv uv Q I r1 r2 ⟨g.da, _, 0, .int c, q1, q2, SqL.of h1, rfl, Post.pure w h rfl⟩ hs
          · simp only [if_neg h0] at h
            by_cases h3 : n = 1
            · subst h3
              simp only [if_pos rfl] at h
              exact ix_list value slice pins s σ H v u vv uv Q I r1 r2 ⟨g.da, _, 1, .int m, q1, q2, SqL.of h1, rfl, Post.pure w h rfl⟩ hs
            · simp only [if_neg h3] at h
              exact False.elim h
      | _ => exact False.elim h
    | _ => exact False.elim h
  | book => cases y <;> exact False.elim h
  | exc c => cases y <;> exact False.elim h

variable {a b c : Expr} {ca cb cc : C} {pos p : Pos}
theorem s_ix (hu : X.A.units + 1 < cLine) (hK : X.K = M.K) (ha : PE X a (tP M Φ ca E)) (hb : PE X b (tC M Φ cb E)) (hs : PlainIx b) : PE X (.Subscript a b pos) (tC M Φ (.ix ca cb) E) := by
  refine (pe_ix (ix_dat (E := E) hu hK) ha hb hs).imp fun σ H Q ⟨g, H0, δ, s, w, so, h⟩ => ?_
  unfold evC at h
  refine tP.bind w so h fun v H1 g1 x s1 l1 w1 so1 r1 h1 => ?_
  refine tC.bind w1 so1 h1 fun u H2 g2 y s2 l2 w2 so2 r2 h2 => ?_
  exact ⟨g2, s2, x, y, w2, r1.mono l2, r2, h2⟩
/-! ### slices -/
theorem bound_eq (n d : Nat) (o : Option Int) : bound n d o = HT.sIx n d o := by cases o <;> rfl
theorem cut_rep {K : PySem.W.Frag} {F : Hp} {ds : List D} {vs : List V} {lo hi : Option Int} (h : Reps K F ds vs) : Reps K F (cut ds lo hi) (cutV vs lo hi) := by
  unfold cut cutV
  rw [bound_eq, bound_eq, h.length]
  exact (h.drop _).take _
theorem cut_whole {α : Type} {xs : List α} {lo hi : Option Int} (h : HT.sIx xs.length 0 lo = 0 ∧ HT.sIx xs.length xs.length hi = xs.length) : cut xs lo hi = xs := by
  unfold cut
  rw [bound_eq, bound_eq, h.1, h.2]
  simp
def tO (M : Mw) (Φ : Nat → Option Fn) (c : C) (E : XK) : TO := fun σ H Q => ∃ g H0 δ s, WOk M g H s ∧ SOk M g H0 H σ δ ∧ PostG M E (fun _ _ (o o' : Option Int) => o = o') (part c s (evC M.gl Φ c δ s)) g H Q
theorem _root_.L2.PO.imp {X : Cx} {e : Option Expr} {t t' : TO} (h : PO X e t) (k : ∀ σ H Q, t' σ H Q → t σ H Q) : PO X e t' := ⟨fun pins s σ H Q I q => h.run pins s σ H Q I (k σ H Q q)⟩
theorem s_nopart : PO X none (tO M Φ .nopart E) := po_none.imp fun σ H Q ⟨g, H0, δ, s, w, so, h⟩ => h none g H (Le.refl _ _) w rfl
theorem part_other {s : Sto} {r : Res W} (h : ca ≠ .nopart) : part ca s r = r.bind fun x s => match x with
    | .d (.int i) => .ok (some i) s
    | _ => .bad := by
  unfold part
  split
  · exact absurd rfl h
  · rfl
theorem s_part (hn : ca ≠ .nopart) (ha : PE X a (tC M Φ ca E)) : PO X (some a) (tO M Φ ca E) := by
  refine (po_some ha).imp fun σ H Q ⟨g, H0, δ, s, w, so, h⟩ => ?_
  rw [part_other hn] at h
  refine tC.bind w so h fun v H1 g1 x s1 l1 w1 so1 r1 h1 => ?_
  cases x with
  | d x => cases x with
    | int i => exact ⟨i, r1, h1 (some i) g1 H1 (Le.refl _ _) w1 rfl⟩
    | _ => exact False.elim h1
  | _ => exact False.elim h1
theorem s_sl {lo hi : Option Expr} {cl ch : C} {p2 : Pos} (hK : X.K = M.K) (ha : PE X a (tC M Φ ca E)) (hl : PO X lo (tO M Φ cl E)) (hh : PO X hi (tO M Φ ch E)) : PE X (.Subscript a (.Slice lo hi none p2) pos) (tC M Φ (.sl ca cl ch) E) := by
  refine (pe_slice ((sl_tupB.or sl_list).or sl_str) ha hl hh).imp fun σ H Q ⟨g, H0, δ, s, w, so, h⟩ => ?_
  unfold evC at h
  refine tC.bind w so h fun v H1 g1 x s1 l1 w1 so1 r1 h1 => ?_
  refine ⟨g1, H0, δ, s1, w1, so1, h1.bind.mono fun l H2 ⟨g2, l', s2, l2, w2, e2, h2⟩ => ?_⟩
  refine ⟨g2, H0, δ, s2, w2, so1.later l2, h2.bind.mono fun u H3 ⟨g3, u', s3, l3, w3, e3, h3⟩ => ?_⟩
  have e2 : l' = l := e2
  have e3 : u' = u := e3
  subst e2 e3
  have r3 := (r1.mono l2).mono l3
  cases x with
  | d x =>
    cases x with
    | tup ds =>
      obtain ⟨a, vs, rfl, q1, q2⟩ := r3
      refine .inl (.inl ⟨a, vs, rfl, by rw [hK]; exact q1.mono' w3, fun e => ?_, fun _ p o hp ho => Post.tup w3 h3 (cut_rep q2) hp ho⟩)
      rw [q2.length] at e
      refine Post.pure w3 h3 ?_
      rw [cut_whole e]
      exact ⟨a, vs, rfl, q1, q2⟩
    | lst ds =>
      obtain ⟨a, vs, rfl, q1, q2⟩ := r3
      exact .inl (.inr ⟨a, vs, rfl, SqL.of (w3.sub _ _ q1), fun p hp => Post.lst w3 h3 (cut_rep q2) hp⟩)
    | str x =>
      simp only [slR] at h3
      split at h3
      · rename_i hl
        refine .inr ⟨sS x, r3, by rw [sS_len, ← lim_eq]; exact hl, ?_⟩
        refine Post.pure w3 h3 ?_
        show V.str (cutS (sS x) l' u') = V.str (sS (cut x l' u'))
        unfold cutS cut
        simp [bound_eq, Str.length]
      · exact False.elim h3
    | _ => exact False.elim h3
  | _ => exact False.elim h3
end
end G
end
section
set_option Elab.async false
set_option linter.all false
set_option maxRecDepth 100000
set_option maxHeartbeats 1000000
/-! sorted of alike data, empty tuples among them -/
namespace G
open PySem PySem.Spec PyProof.Rows L2 PySem.SeqAt
section
variable {prog : Program} {w : World} {A : Around} {E : Value → Shared → Prop} {s : Shared}
theorem call_tuple_lt {Q : Value → Shared → Prop} {l b : Addr} {items items2 : Array Value} {e r : Nat → Bool} (hl : s.heap.IsTuple l items) (hb : s.heap.IsTuple b items2)
    (he : ∀ j (h1 : j < items.size) (h2 : j < items2.size), EqAt A.in1 s items[j] items2[j] (e j)) (hr : ∀ j (h1 : j < items.size) (h2 : j < items2.size), e j = false → RcLt A.in1 s items[j] items2[j] (r j))
    (h : Q (.bool (firstLt e r (decide (items.size < items2.size)) (List.range (min items.size items2.size)))) s) : wpAny (model prog w) A (call (.builtin "tuple.__lt__") [.ref l, .ref b]) Q E s := by
  obtain ⟨⟨cls, dd, data, sl⟩, ho, hc, n, hd⟩ := id hl
  obtain ⟨⟨cls2, dd2, data2, sl2⟩, ho2, hc2, n2, hd2⟩ := id hb
  simp only at hc hd hc2 hd2
  subst hc hd hc2 hd2
  exact call_meets F.slot_tuple_lt ⟨_, ho, rfl⟩ F.entry_tuple_lt (F.args_tuple_lt_2 _ _) (tuple_ltAt l b items items2 n n2 dd dd2 sl sl2 e r) ⟨ho, ho2, he, hr, h⟩
/-- one tuple against another, by tuple's own __lt__ -/
theorem oneLt_tup {xs ys : List PyData} {a b : Value} {as bs : List Addr} {Q : Bool → Shared → Prop} (ra : Reads s.heap a (.tuple xs) as) (rb : Reads s.heap b (.tuple ys) bs) (hal : W.alikeAll xs ys = true)
    (hu : A.units + min (PyData.tuple xs).depth (PyData.tuple ys).depth < cLine) (hq : Q (W.dataLt (.tuple xs) (.tuple ys)) s) : wpAny (model prog w) A (oneLt' true a b) Q E s := by
  cases ra with
  | @tuple l o vs n _ as₁ h1 h2 h3 h4 =>
    cases rb with
    | @tuple l' o' vs' n' _ bs₁ k1 k2 k3 k4 =>
      have n1 : vs.size = xs.length := by simpa using ReadsAll.length _ _ _ h4
      have n2 : vs'.size = ys.length := by simpa using ReadsAll.length _ _ _ k4
      rw [W.dataLt_tuple, ← W.firstLt_toks xs ys hal, ← n1, ← n2] at hq
      rw [oneLt'_eq]
      simp only [if_true]
      refine wpAny_bind (wpAny_cRoomFor (room_here hu) ?_)
      refine wpAny_bind (wpAny_callSpecialIfBound?_slot (T := "tuple") ⟨_, h1, h2⟩ F.slot_tuple_lt (call_tuple_lt (e := pairEq xs ys) (r := fun j => W.dataLt (xs.getD j .none) (ys.getD j .none)) ⟨_, h1, h2, _, h3⟩ ⟨_, k1, k2, _, k3⟩ (fun j j1 j2 => ?_) (fun j j1 j2 hj => ?_) ?_))
      · have := W.eqAt_alikeAll xs ys A.in1 s vs.toList vs'.toList _ _ h4 k4 hal (room_in hu) j (by simpa using j1) (by simpa using j2)
        simpa using this
      · have := W.rcLt_alikeAll xs ys A.in1 s vs.toList vs'.toList _ _ h4 k4 hal (room_in hu) j (by simpa using j1) (by simpa using j2) hj
        simpa using this
      · exact wpAny_truthy_bool hq
/-- the first items of tuples, where there are any -/
theorem firsts_any {h : Heap} : ∀ {vs : List Value} {ds : List PyData} {M : Model} {A : Around} {E : Value → Shared → Prop} {s : Shared}, s.heap = h → W.EachIs (fun v d => ∃ as, Reads h v d as) vs ds → (∀ d ∈ ds, ∃ xs, d = .tuple xs) →
    ∃ fs : List (Option Value), fs.length = vs.length ∧ (fs.all Option.isSome = false ↔ PyData.tuple [] ∈ ds) ∧ (fs.head? = some none ↔ ds.head? = some (.tuple [])) ∧ ∀ {Q : List (Option Value) → Shared → Prop}, Q fs s → wpAny M A (vs.mapM firstOfTuple') Q E s
  | _, _, M, A, E, s, _, .nil, _ => ⟨[], rfl, by simp, by simp, fun h => by rw [List.mapM_nil]; exact wpAny_pure h⟩
  | v :: vs, d :: ds, M, A, E, s, eh, .cons ⟨as, r⟩ t, ht => by
    obtain ⟨fs, h1, h2, h3, h4⟩ := firsts_any (M := M) (A := A) (E := E) (s := s) eh t fun d hd => ht d (List.mem_cons_of_mem _ hd)
    obtain ⟨xs, rfl⟩ := ht d (List.mem_cons_self ..)
    cases r with
    | @tuple a o its n _ as ho hc hd hr =>
      subst eh
      refine ⟨its[0]? :: fs, by simp [h1], ?_, ?_, fun {Q} hQ => ?_⟩
      · have e0 : (its[0]?.isSome = false) ↔ xs = [] := by
          have hl : its.size = xs.length := by simpa using ReadsAll.length _ _ _ hr
          rw [Option.isSome_eq_false_iff, Option.isNone_iff_eq_none, Array.getElem?_eq_none_iff, hl]
          constructor
          · intro hz; exact List.eq_nil_of_length_eq_zero (by omega)
          · intro hz; subst hz; exact Nat.le_refl _
        rw [List.all_cons, Bool.and_eq_false_iff, h2, e0]
        simp [eq_comm]
      · have hl : its.size = xs.length := by simpa using ReadsAll.length _ _ _ hr
        simp only [List.head?_cons, Option.some.injEq, PyData.tuple.injEq]
        rw [Array.getElem?_eq_none_iff, hl]
        constructor
        · intro hz; exact List.eq_nil_of_length_eq_zero (by omega)
        · intro hz; subst hz; exact Nat.le_refl _
      · rw [List.mapM_cons]
        refine wpAny_bind ?_
        rw [W.kas_first_eq]
        refine wpAny_bind (W.Looks.here (show W.Looks M s.heap (typeOf (.ref a)) o.cls from (W.Looks.ld ho).andThen .now) ?_)
        rw [hc, if_neg (by first | decide | simp)]
        refine wpAny_bind (PyProof.Rows.listItems_at ho hd (wpAny_pure ?_))
        exact wpAny_bind (h4 (Q := fun bs s' => wpAny M A (pure (its[0]? :: bs)) Q E s') (wpAny_pure hQ))
theorem sorts_tups {vs : List Value} {ds : List PyData} (e : W.EachIs (fun v d => ∃ as, Reads s.heap v d as) vs ds) (hal : W.AllAlike ds) (ht : ∀ d ∈ ds, ∃ xs, d = .tuple xs) (hu : ∀ d, d ∈ ds → A.units + d.depth < cLine) : W.SortsAt prog w A s (W.dataKind s.heap ds) vs := by
  by_cases hne : PyData.tuple [] ∈ ds
  · have room : ∀ {d d' : PyData}, d ∈ ds → A.units + min d.depth d'.depth < cLine := fun {d d'} hd => Nat.lt_of_le_of_lt (Nat.add_le_add_left (Nat.min_le_left _ _) _) (hu d hd)
    refine ⟨fun v hv => ?_, ?_⟩
    · obtain ⟨d, hd, as, r⟩ := e.left v hv
      exact ⟨_, W.dataKind_some hal hd r⟩
    · by_cases hf : ds.head? = some (.tuple [])
      · -- the first is empty: all of one type
        refine ⟨oneType', ?_, fun h2 E Q hq => ?_⟩
        · intro E x y a b Q ha hb hq
          obtain ⟨d, as, hd, ra, rfl⟩ := W.dataKind_inv ha
          obtain ⟨d', as', hd', rb, rfl⟩ := W.dataKind_inv hb
          obtain ⟨xs, rfl⟩ := ht d hd
          obtain ⟨ys, rfl⟩ := ht d' hd'
          rw [keyLt'_oneType]
          exact oneLt_tup ra rb (by simpa [W.alike] using hal _ hd _ hd') (room hd) hq
        · obtain ⟨fs, h1, h3, h4, h5⟩ := firsts_any (M := model prog w) (A := A) (E := E) (s := s) rfl e ht
          rw [keyKind'_eq, List.mapM_toArray, map_eq_pure_bind]
          refine wpAny_bind (wpAny_bind (h5 (wpAny_pure ?_)))
          have e1 : fs.toArray.all (fun x => x.isSome) = false := by rw [List.all_toArray]; exact h3.mpr hne
          have e2 : (fs.toArray[0]?.bind id).isSome = false := by
            have := h4.mpr hf
            rw [List.head?_eq_getElem?] at this
            rw [List.getElem?_toArray, this]; rfl
          rw [e1, if_neg (by simp), e2, if_neg (by simp)]
          rw [oneTypeOnly'_eq, List.mapM_toArray, map_eq_pure_bind]
          have hT : ∀ v ∈ vs, W.Looks (model prog w) s.heap (typeOf v) (Value.type "tuple") := fun v hv => by
            obtain ⟨d, hd, as, r⟩ := e.left v hv
            obtain ⟨xs, rfl⟩ := ht d hd
            exact W.looks_reads r
          refine wpAny_bind (wpAny_bind (wpAny_bind (W.kas_mapM (r := Value.type "tuple") _ (fun v hv Q' hq => (hT v hv).here hq) (wpAny_pure ?_))))
          have hall : ((List.map (fun _ => Value.type "tuple") vs).toArray.all fun x => x == Value.type "tuple") = true := by
            simp only [List.all_toArray, List.all_map, List.all_eq_true]
            intro _ _; rfl
          have h0 : (List.map (fun _ => Value.type "tuple") vs).toArray[0]? = some (Value.type "tuple") := by
            cases vs with
            | nil => simp at h2
            | cons v vs => simp
          rw [h0]
          simp only [hall, if_true]
          exact wpAny_pure (wpAny_pure hq)
      · refine ⟨general', ?_, fun h2 E Q hq => ?_⟩
        · intro E x y a b Q ha hb hq
          obtain ⟨d, as, hd, ra, rfl⟩ := W.dataKind_inv ha
          obtain ⟨d', as', hd', rb, rfl⟩ := W.dataKind_inv hb
          obtain ⟨xs, rfl⟩ := ht d hd
          show wpAny (model prog w) A (oneLt' false x y) Q E s
          exact W.oneLt_alike (fun h => by cases h) ra rb (hal _ hd _ hd') (by intro z; cases z) (room hd) hq
        · obtain ⟨fs, h1, h3, h4, h5⟩ := firsts_any (M := model prog w) (A := A) (E := E) (s := s) rfl e ht
          rw [keyKind'_eq, List.mapM_toArray, map_eq_pure_bind]
          refine wpAny_bind (wpAny_bind (h5 (wpAny_pure ?_)))
          have e1 : fs.toArray.all (fun x => x.isSome) = false := by rw [List.all_toArray]; exact h3.mpr hne
          have e2 : (fs.toArray[0]?.bind id).isSome = true := by
            cases fs with
            | nil =>
              have hl := e.length
              cases vs with
              | nil => simp at h2
              | cons v vs => simp at h1
            | cons f fs =>
              cases f with
              | none => exact absurd (h4.mp rfl) hf
              | some f => rfl
          rw [e1, if_neg (by simp), e2, if_pos rfl]
          exact wpAny_pure hq
  · refine W.SortsAt.data e hal (.inl fun d hd => ?_) hu
    obtain ⟨xs, rfl⟩ := ht d hd
    cases xs with
    | nil => exact absurd hd hne
    | cons x r => exact ⟨x, r, rfl⟩
end
end G
namespace G
open PySem PySem.Spec PyProof.Rows L2
/-! ### the calls of built-ins -/
section
variable {X : Cx} {M : Mw} {Φ : Nat → Option Fn} {E : XK} {L : Nat}
def rB1 (M : Mw) (E : XK) (f : B1) : List V → Hp → VK → Prop := fun vs H Q => ∃ g s x v, vs = [v] ∧ WOk M g H s ∧ RepP M g H x v ∧ Post M E (b1R f x s) g H Q
theorem c_len (hK : X.K = M.K) : CallR X (.builtin "len") (rB1 M E .len) := by
  intro pins s σ H xs us Q I r ⟨g, st, x, v, e, w, q, h⟩
  refine call_len pins s σ H xs us Q I r ?_
  cases x with
  | d x =>
    cases x with
    | tup ds =>
      obtain ⟨a, vs, rfl, h1, h2⟩ := q
      exact ⟨_, ds.length, e, .inr ⟨vs, by rw [hK]; exact h1.mono' w, h2.length.symm⟩, Post.pure w h rfl⟩
    | lst ds =>
      obtain ⟨a, vs, rfl, h1, h2⟩ := q.lst w
      exact ⟨_, ds.length, e, .inl ⟨vs, SqL.of h1, h2.length.symm⟩, Post.pure w h rfl⟩
    | str x =>
      simp only [b1R] at h
      split at h
      · rename_i hl
        rw [q.str] at e
        exact ⟨_, x.length, e, ⟨by rw [sS_len, ← lim_eq]; exact hl, (sS_len x).symm⟩, Post.pure w h rfl⟩
      · exact False.elim h
    | _ => exact False.elim h
  | _ => exact False.elim h
theorem reps_bls {K : PySem.W.Frag} {F : Hp} : ∀ {ds : List D} {vs : List V} {bs : List Bool}, Reps K F ds vs → allM isBl ds = some bs → vs = bs.map V.bl
  | [], _, bs, h, e => by cases e; exact h
  | d :: ds, _, bs, h, e => by
    obtain ⟨v, r, rfl, q, t⟩ := h
    unfold allM at e
    cases d with
    | bl b =>
      cases e2 : allM isBl ds with
      | none => rw [e2] at e; cases e
      | some r2 =>
        rw [e2] at e
        cases e
        rw [reps_bls t e2, show v = V.bl b from q]
        rfl
    | _ => cases e
theorem reps_ints {K : PySem.W.Frag} {F : Hp} : ∀ {ds : List D} {vs : List V} {bs : List Int}, Reps K F ds vs → allM asInt ds = some bs → vs = bs.map V.int
  | [], _, bs, h, e => by cases e; exact h
  | d :: ds, _, bs, h, e => by
    obtain ⟨v, r, rfl, q, t⟩ := h
    unfold allM at e
    cases d with
    | int b =>
      cases e2 : allM asInt ds with
      | none => rw [e2] at e; cases e
      | some r2 =>
        rw [e2] at e
        cases e
        rw [reps_ints t e2, show v = V.int b from q]
        rfl
    | _ => cases e
theorem c_all (hc : X.calm = true) : CallR X (.builtin "all") (rB1 M E .all) := by
  intro pins s σ H xs us Q I r ⟨g, st, x, v, e, w, q, h⟩
  refine cr_all hc pins s σ H xs us Q I r ?_
  cases x with
  | d x =>
    cases x with
    | lst ds =>
      obtain ⟨a, vs, rfl, h1, h2⟩ := q.lst w
      simp only [b1R] at h
      cases e2 : allM isBl ds with
      | none => rw [e2] at h; exact False.elim h
      | some bs =>
        rw [e2] at h
        exact ⟨a, bs, e, by rw [← reps_bls h2 e2]; exact SqL.of h1, Post.bl w h⟩
    | _ => exact False.elim h
  | _ => exact False.elim h
theorem c_any (hc : X.calm = true) : CallR X (.builtin "any") (rB1 M E .any) := by
  intro pins s σ H xs us Q I r ⟨g, st, x, v, e, w, q, h⟩
  refine cr_any hc pins s σ H xs us Q I r ?_
  cases x with
  | d x =>
    cases x with
    | lst ds =>
      obtain ⟨a, vs, rfl, h1, h2⟩ := q.lst w
      simp only [b1R] at h
      cases e2 : allM isBl ds with
      | none => rw [e2] at h; exact False.elim h
      | some bs =>
        rw [e2] at h
        exact ⟨a, bs, e, by rw [← reps_bls h2 e2]; exact SqL.of h1, Post.bl w h⟩
    | _ => exact False.elim h
  | _ => exact False.elim h
theorem c_sum (hc : X.calm = true) : CallR X (.builtin "sum") (rB1 M E .sum) := by
  intro pins s σ H xs us Q I r ⟨g, st, x, v, e, w, q, h⟩
  refine cr_sum hc pins s σ H xs us Q I r ?_
  cases x with
  | d x =>
    cases x with
    | lst ds =>
      obtain ⟨a, vs, rfl, h1, h2⟩ := q.lst w
      simp only [b1R] at h
      cases e2 : allM asInt ds with
      | none => rw [e2] at h; exact False.elim h
      | some bs =>
        rw [e2] at h
        exact ⟨a, bs, e, by rw [← reps_ints h2 e2]; exact SqL.of h1, Post.pure w h rfl⟩
    | _ => exact False.elim h
  | _ => exact False.elim h
theorem c_tuple (hK : X.K = M.K) : CallR X (.type "tuple") (rB1 M E .tuple) := by
  intro pins s σ H xs us Q I r ⟨g, st, x, v, e, w, q, h⟩
  refine call_tupleB pins s σ H xs us Q I r ?_
  cases x with
  | d x =>
    cases x with
    | tup ds =>
      obtain ⟨a, vs, rfl, h1, h2⟩ := q
      exact ⟨a, vs, e, .inr ⟨by rw [hK]; exact h1.mono' w, Post.pure w h ⟨a, vs, rfl, h1, h2⟩⟩⟩
    | lst ds =>
      obtain ⟨a, vs, rfl, h1, h2⟩ := q.lst w
      exact ⟨a, vs, e, .inl ⟨SqL.of h1, fun p o hp ho => Post.tup w h h2 hp ho⟩⟩
    | _ => exact False.elim h
  | _ => exact False.elim h
/-- list(x): a list of its own -/
def rLstF (M : Mw) (E : XK) : List V → Hp → VK → Prop := fun vs H Q => ∃ g0 H0 g s x v, vs = [v] ∧ Le g0 H0 g H ∧ WOk M g H s ∧ RepP M g H x v ∧ PostF M E (b1R .list x s) g0 H0 Q
theorem c_listF (hc : X.calm = true) (hP : X.prog = M.P) (hw : X.w = M.w) (hK : X.K = M.K) : CallR X (.type "list") (rLstF M E) := by
  intro pins s σ H xs us Q I r ⟨g0, H0, g, st, x, v, e, l, w, q, h⟩
  by_cases hx : ∃ kvs, x = .dct kvs
  · obtain ⟨kvs, rfl⟩ := hx
    obtain ⟨a, ks, rfl, hd, hk⟩ := q.dx w
    rw [← hP, ← hw] at hd
    refine call_list_dx hc pins s σ H xs us Q I r ⟨a, ks, e, hd, fun p hp => PostF.pure l w h hk.list hp⟩
  refine call_list_of pins s σ H xs us Q I r ?_
  cases x with
  | dct kvs => exact absurd ⟨kvs, rfl⟩ hx
  | d x =>
    cases x with
    | tup ds =>
      obtain ⟨a, vs, rfl, h1, h2⟩ := q
      exact ⟨a, vs, e, .inr (by rw [hK]; exact h1.mono' w), fun p hp => PostF.pure l w h h2 hp⟩
    | lst ds =>
      obtain ⟨a, vs, rfl, h1, h2⟩ := q.lst w
      exact ⟨a, vs, e, .inl (SqL.of h1), fun p hp => PostF.pure l w h h2 hp⟩
    | _ => exact False.elim h
  | _ => exact False.elim h
theorem c_abs : CallR X (.builtin "abs") (rB1 M E .abs) := by
  intro pins s σ H xs us Q I r ⟨g, st, x, v, e, w, q, h⟩
  refine call_abs pins s σ H xs us Q I r ?_
  cases x with
  | d x => cases x with
    | int i => rw [q.int] at e; exact ⟨i, e, Post.pure w h rfl⟩
    | _ => exact False.elim h
  | _ => exact False.elim h
theorem c_int : CallR X (.type "int") (rB1 M E .int) := by
  intro pins s σ H xs us Q I r ⟨g, st, x, v, e, w, q, h⟩
  refine call_int1 pins s σ H xs us Q I r ?_
  cases x with
  | d x => cases x with
    | int i => rw [q.int] at e; exact .inl ⟨i, e, Post.pure w h rfl⟩
    | bl i =>
      have q : v = V.bl i := q
      rw [q] at e; exact .inr ⟨i, e, Post.pure w h rfl⟩
    | _ => exact False.elim h
  | _ => exact False.elim h
theorem each_of {K : PySem.W.Frag} {F : Hp} {X : Cx} (hK : X.K = K) {pins : List (Addr × Obj)} {s : Shared} {σ : L2.St} {H : Hp} (I : Inv X pins σ H s) (sb : Sub F H) : ∀ {ds : List D} {vs : List V} {its : List Value}, Reps K F ds vs → Vals vs its →
    PySem.W.EachIs (fun u (b : D × V) => RelV b.2 u ∧ Rep K F b.1 b.2) its (ds.zip vs) ∧ PySem.W.EachIs (fun u (b : D × V) => ∃ as, Reads s.heap u (toPy b.1) as) its (ds.zip vs)
  | [], _, _, h, r => by
    rw [show _ = [] from h] at r
    cases r
    exact ⟨.nil, .nil⟩
  | d :: ds, _, _, h, r => by
    obtain ⟨v, t, rfl, q, k⟩ := h
    cases r with
    | cons r1 r2 =>
      obtain ⟨h1, h2⟩ := each_of hK I sb k r2
      have hd := Rep.dp sb d q
      rw [← hK] at hd
      exact ⟨.cons ⟨r1, q⟩ h1, .cons (Dp.reads I (toPy d) v _ hd r1) h2⟩
theorem zip_fst {ds : List D} {vs : List V} (h : vs.length = ds.length) : (ds.zip vs).map Prod.fst = ds := by
  rw [List.map_fst_zip]; omega
theorem reps_pairs {K : PySem.W.Frag} {F : Hp} {R : Value → D × V → Prop} (hR : ∀ u b, R u b → RelV b.2 u ∧ Rep K F b.1 b.2) : ∀ {us : List Value} {bs : List (D × V)}, PySem.W.EachIs R us bs → Reps K F (bs.map Prod.fst) (bs.map Prod.snd) ∧ Vals (bs.map Prod.snd) us
  | _, _, .nil => ⟨rfl, .nil⟩
  | _, _, .cons h t => let ⟨h1, h2⟩ := reps_pairs hR t; let ⟨r, q⟩ := hR _ _ h; ⟨⟨_, _, rfl, q, h1⟩, .cons r h2⟩
end
end G
end
section
set_option Elab.async false
set_option linter.all false
set_option maxRecDepth 100000
set_option maxHeartbeats 1000000
/-! sorted, min, max, and the like -/
namespace G
open PySem PySem.Spec PyProof.Rows L2
theorem allAlike_py {ds : List D} (h : allAlike ds = true) : W.AllAlike (ds.map toPy) := by
  intro x hx y hy
  obtain ⟨d, hd, rfl⟩ := List.mem_map.mp hx
  obtain ⟨e, he, rfl⟩ := List.mem_map.mp hy
  unfold allAlike at h
  rw [List.all_eq_true] at h
  have h1 := h d hd
  rw [List.all_eq_true] at h1
  exact alike_py d e (h1 e he)
theorem allAlike_at {ds : List D} (h : allAlike ds = true) {d e : D} (hd : d ∈ ds) (he : e ∈ ds) : alike d e = true := by
  unfold allAlike at h
  rw [List.all_eq_true] at h
  have h1 := h d hd
  rw [List.all_eq_true] at h1
  exact h1 e he
theorem kinds_py {ds : List D} (h : allAlike ds = true) : (∀ d ∈ ds.map toPy, ∃ xs, d = .tuple xs) ∨ ∀ d ∈ ds.map toPy, d ≠ .none ∧ ∀ xs, d ≠ .tuple xs := by
  cases ds with
  | nil => exact .inr fun d hd => by simp at hd
  | cons d0 r =>
    cases d0 with
    | tup xs =>
      refine .inl fun d hd => ?_
      obtain ⟨e, he, rfl⟩ := List.mem_map.mp hd
      have := allAlike_at h (List.mem_cons_self ..) he
      cases e <;> first | exact ⟨_, rfl⟩ | exact absurd this Bool.false_ne_true
    | _ =>
      refine .inr fun d hd => ?_
      obtain ⟨e, he, rfl⟩ := List.mem_map.mp hd
      have := allAlike_at h (List.mem_cons_self ..) he
      cases e <;> first | exact absurd this Bool.false_ne_true | exact And.intro (fun z => by simp [toPy] at z) (fun xs z => by simp [toPy] at z)
theorem depth_mem {d : D} : ∀ {ds : List D}, d ∈ ds → depth d ≤ depths ds
  | e :: es, h => by
    unfold depths
    rcases List.mem_cons.mp h with rfl | h
    · exact Nat.le_max_left _ _
    · exact Nat.le_trans (depth_mem h) (Nat.le_max_right _ _)
/-- a merge sort, by putting one in -/
def putI {α : Type} (le : α → α → Bool) (a : α) : List α → List α
  | [] => [a]
  | b :: bs => if le a b then a :: b :: bs else b :: putI le a bs
theorem putI_mid {α : Type} {le : α → α → Bool} (a : α) (l2 : List α) (h2 : ∀ b ∈ l2, le a b = true) : ∀ l1 : List α, (∀ b ∈ l1, (!le a b) = true) → putI le a (l1 ++ l2) = l1 ++ a :: l2
  | [], _ => by
    cases l2 with
    | nil => rfl
    | cons b bs =>
      show (if le a b then _ else _) = _
      rw [if_pos (h2 b (List.mem_cons_self ..))]
      rfl
  | b :: l1, h => by
    show (if le a b then _ else _) = _
    have hb := h b (List.mem_cons_self ..)
    rw [Bool.not_eq_true'] at hb
    rw [hb, if_neg (by simp)]
    exact congrArg (b :: ·) (putI_mid a l2 h2 l1 fun c hc => h c (List.mem_cons_of_mem _ hc))
theorem merge_put {α : Type} {le : α → α → Bool} (tr : ∀ a b c : α, le a b = true → le b c = true → le a c = true) (to : ∀ a b : α, (le a b || le b a) = true) (a : α) (l : List α) : (a :: l).mergeSort le = putI le a (l.mergeSort le) := by
  obtain ⟨l1, l2, e1, e2, h⟩ := List.mergeSort_cons tr to a l
  have hs := List.pairwise_mergeSort tr to (a :: l)
  rw [e1, List.pairwise_append] at hs
  have h2 := (List.pairwise_cons.mp hs.2.1).1
  rw [e1, e2, putI_mid a l2 h2 l1 h]
theorem sortD_of {α : Type} (f : α → D) : ∀ (bs : List α), allAlike (bs.map f) = true → (bs.mergeSort (W.dataLe false fun b => toPy (f b))).map f = sortD (bs.map f)
  | [], _ => by simp [sortD]
  | b :: bs, h => by
    have T := W.sortLe_total (PyProof.Rows.listOrd itemOrd) false (fun b : α => W.keyToks (toPy (f b)))
    have h' : allAlike (bs.map f) = true := by
      unfold allAlike at h ⊢
      rw [List.all_eq_true] at h ⊢
      intro d hd
      have := h d (List.mem_cons_of_mem _ hd)
      rw [List.all_eq_true] at this ⊢
      exact fun e he => this e (List.mem_cons_of_mem _ he)
    rw [merge_put (le := W.dataLe false fun b => toPy (f b)) T.trans (fun a b => by rw [Bool.or_eq_true]; exact T.total a b)]
    have ih := sortD_of f bs h'
    show _ = insR (f b) (sortD (bs.map f))
    rw [← ih]
    have put : ∀ l : List α, (∀ c ∈ l, c ∈ bs) → (putI (W.dataLe false fun b => toPy (f b)) b l).map f = insR (f b) (l.map f) := by
      intro l
      induction l with
      | nil => intro _; rfl
      | cons c l ihl =>
        intro hl
        have hcb : alike (f c) (f b) = true := allAlike_at h (List.mem_map.mpr ⟨c, List.mem_cons_of_mem _ (hl c (List.mem_cons_self ..)), rfl⟩) (List.mem_map.mpr ⟨b, List.mem_cons_self .., rfl⟩)
        show (if W.dataLe false (fun b => toPy (f b)) b c = true then b :: c :: l else c :: putI _ b l).map f = if ltD (f c) (f b) = true then f c :: insR (f b) (l.map f) else f b :: f c :: l.map f
        have e : W.dataLe false (fun b => toPy (f b)) b c = !ltD (f c) (f b) := by
          rw [W.dataLe_eq]
          show (!W.dataLt (toPy (f c)) (toPy (f b))) = _
          rw [lt_py _ _ hcb]
        rw [e]
        by_cases hl2 : ltD (f c) (f b) = true
        · rw [if_pos hl2, if_neg (by simp [hl2]), List.map_cons, ihl fun x hx => hl x (List.mem_cons_of_mem _ hx)]
        · rw [if_neg hl2, if_pos (by simpa using hl2)]
          rfl
    exact put _ fun c hc => (List.mergeSort_perm bs _).mem_iff.mp hc
section
variable {X : Cx} {M : Mw} {Φ : Nat → Option Fn} {E : XK} {L : Nat}
def rB1F (M : Mw) (E : XK) (f : B1) : List V → Hp → VK → Prop := fun vs H Q => ∃ g0 H0 g s x v, vs = [v] ∧ Le g0 H0 g H ∧ WOk M g H s ∧ RepP M g H x v ∧ PostF M E (b1R f x s) g0 H0 Q
theorem c_sortedF (hK : X.K = M.K) (hr : Room L X.A) : CallR X (.builtin "sorted") (rB1F M E .sorted) := by
  intro pins s σ H xs us Q I r ⟨g0, H0, g, st, x, v, e, l, w, q, h⟩
  cases x with
  | d x =>
    cases x with
    | lst ds =>
      simp only [b1R] at h
      split at h
      · rename_i hd
        rw [Bool.and_eq_true, decide_eq_true_eq] at hd
        obtain ⟨a, vs, rfl, h1, h2⟩ := q.lst w
        subst e
        obtain ⟨its, rv, hl, hz⟩ := I.list (SqL.of (K := X.K) h1)
        rw [Vals.ref1 r]
        obtain ⟨e1, e2⟩ := each_of hK I w.sub h2 rv
        have hfst := zip_fst h2.length
        have hmap : (ds.zip vs).map (fun b => toPy b.1) = ds.map toPy := by
          have z : (ds.zip vs).map (fun b => toPy b.1) = ((ds.zip vs).map Prod.fst).map toPy := by rw [List.map_map]; rfl
          rw [z, hfst]
        have hal : W.AllAlike ((ds.zip vs).map fun b => toPy b.1) := by rw [hmap]; exact allAlike_py hd.1
        have e3 : W.EachIs (fun v (b : D × V) => ∃ as, Reads (W.sortingHeap (W.copyHeap s.heap its) (s.heap.objs.size + 1) its) v (toPy b.1) as) its (ds.zip vs) := e2.mono fun _ _ ⟨as, r⟩ => ⟨as, PyProof.Rows.Reads.keeps (fun _ _ => W.sorting_copy_old) r⟩
        have e4 := W.each_map (R := fun v d => ∃ as, Reads (W.sortingHeap (W.copyHeap s.heap its) (s.heap.objs.size + 1) its) v d as) (fun b : D × V => toPy b.1) e3
        have hu : ∀ d, d ∈ (ds.zip vs).map (fun b : D × V => toPy b.1) → (X.A.in1.in1).units + d.depth < cLine := by
          intro d hd'
          rw [hmap] at hd'
          obtain ⟨e, he, rfl⟩ := List.mem_map.mp hd'
          have := depth_mem he
          rw [depth_toPy]
          have hu := hr.units
          show X.A.units + 1 + 1 + depth e < cLine
          omega
        have S : W.SortsAt X.prog X.w X.A.in1.in1 { s with heap := W.sortingHeap (W.copyHeap s.heap its) (s.heap.objs.size + 1) its } (W.dataKind (W.sortingHeap (W.copyHeap s.heap its) (s.heap.objs.size + 1) its) ((ds.zip vs).map fun b => toPy b.1)) its := by
          rcases kinds_py hd.1 with hk | hk
          · rw [← hmap] at hk
            exact sorts_tups (s := { s with heap := W.sortingHeap (W.copyHeap s.heap its) (s.heap.objs.size + 1) its }) e4 hal hk hu
          · rw [← hmap] at hk
            exact W.SortsAt.data (s := { s with heap := W.sortingHeap (W.copyHeap s.heap its) (s.heap.objs.size + 1) its }) e4 hal (.inr hk) hu
        refine W.sorted_vals hl.isList S (by rw [← rv.length]; exact hz) ?_
        have out := W.sortVals_data false e1 e3 hal
        obtain ⟨q1, q2⟩ := reps_pairs (fun u b h => ⟨h.1, h.2⟩) out
        have hq : ((ds.zip vs).mergeSort (W.dataLe false fun b => toPy b.1)).map Prod.fst = sortD ds := by
          have := sortD_of (Prod.fst (α := D) (β := V)) (ds.zip vs) (by rw [hfst]; exact hd.1)
          rw [hfst] at this
          exact this
        rw [hq] at q1
        obtain ⟨ep, he'⟩ := PyProof.Rows.sortedAll_at s.heap its (W.sortVals (W.dataKind (W.sortingHeap (W.copyHeap s.heap its) (s.heap.objs.size + 1) its) ((ds.zip vs).map fun b => toPy b.1)) false its its).toArray
        have hlen : (((ds.zip vs).mergeSort (W.dataLe false fun b => toPy b.1)).map Prod.snd).length ≤ sizeLine := by
          rw [List.length_map, List.length_mergeSort, List.length_zip, h2.length]
          rw [h2.length] at hz
          omega
        have hf : H (s.heap.objs.size + 1) = none := I.hok.fresh (Nat.le_succ _)
        exact ⟨.ref _, upd H (s.heap.objs.size + 1) (.lst _), I.laid (t' := s.toks) (fun _ _ => PyProof.Rows.sortedAll_old) (Nat.le_succ _) ⟨hlen, _, ep, q2, he'⟩, rfl, PostF.pure l w h q1 hf⟩
      · exact False.elim h
    | _ => exact False.elim h
  | _ => exact False.elim h
theorem foldl_min_spec : ∀ (is : List Int) (i : Int), (is.foldl min i ∈ i :: is) ∧ ∀ y ∈ i :: is, is.foldl min i ≤ y
  | [], i => by simp
  | j :: is, i => by
    obtain ⟨h1, h2⟩ := foldl_min_spec is (min i j)
    rw [List.foldl_cons]
    refine ⟨?_, fun y hy => ?_⟩
    · rcases List.mem_cons.mp h1 with h | h
      · rw [h]
        by_cases hij : i ≤ j
        · rw [Int.min_eq_left hij]; simp
        · rw [Int.min_eq_right (by omega)]; simp
      · simp [h]
    · have h3 := h2 (min i j) (List.mem_cons_self ..)
      rcases List.mem_cons.mp hy with rfl | hy
      · omega
      · rcases List.mem_cons.mp hy with rfl | hy
        · omega
        · exact h2 y (List.mem_cons_of_mem _ hy)
theorem foldl_max_spec : ∀ (is : List Int) (i : Int), (is.foldl max i ∈ i :: is) ∧ ∀ y ∈ i :: is, y ≤ is.foldl max i
  | [], i => by simp
  | j :: is, i => by
    obtain ⟨h1, h2⟩ := foldl_max_spec is (max i j)
    rw [List.foldl_cons]
    refine ⟨?_, fun y hy => ?_⟩
    · rcases List.mem_cons.mp h1 with h | h
      · rw [h]
        by_cases hij : i ≤ j
        · rw [Int.max_eq_right hij]; simp
        · rw [Int.max_eq_left (by omega)]; simp
      · simp [h]
    · have h3 := h2 (max i j) (List.mem_cons_self ..)
      rcases List.mem_cons.mp hy with rfl | hy
      · omega
      · rcases List.mem_cons.mp hy with rfl | hy
        · omega
        · exact h2 y (List.mem_cons_of_mem _ hy)
theorem c_min (hc : X.calm = true) : CallR X (.builtin "min") (rB1 M E .min) := by
  intro pins s σ H xs us Q I r ⟨g, st, x, v, e, w, q, h⟩
  refine cr_min hc pins s σ H xs us Q I r ?_
  cases x with
  | d x =>
    cases x with
    | lst ds =>
      obtain ⟨a, vs, rfl, h1, h2⟩ := q.lst w
      simp only [b1R] at h
      split at h
      · rename_i i is e2
        refine ⟨a, i :: is, e, by rw [← reps_ints h2 e2]; exact SqL.of h1, Nat.succ_pos _, fun m hm hy => ?_⟩
        obtain ⟨k1, k2⟩ := foldl_min_spec is i
        have : m = is.foldl min i := Int.le_antisymm (hy _ k1) (k2 _ hm)
        subst this
        exact Post.pure w h rfl
      · exact False.elim h
    | _ => exact False.elim h
  | _ => exact False.elim h
theorem c_max (hc : X.calm = true) : CallR X (.builtin "max") (rB1 M E .max) := by
  intro pins s σ H xs us Q I r ⟨g, st, x, v, e, w, q, h⟩
  refine cr_max hc pins s σ H xs us Q I r ?_
  cases x with
  | d x =>
    cases x with
    | lst ds =>
      obtain ⟨a, vs, rfl, h1, h2⟩ := q.lst w
      simp only [b1R] at h
      split at h
      · rename_i i is e2
        refine ⟨a, i :: is, e, by rw [← reps_ints h2 e2]; exact SqL.of h1, Nat.succ_pos _, fun m hm hy => ?_⟩
        obtain ⟨k1, k2⟩ := foldl_max_spec is i
        have : m = is.foldl max i := Int.le_antisymm (k2 _ hm) (hy _ k1)
        subst this
        exact Post.pure w h rfl
      · exact False.elim h
    | _ => exact False.elim h
  | _ => exact False.elim h
def rB2 (M : Mw) (E : XK) (f : B2) : List V → Hp → VK → Prop := fun vs H Q => ∃ g s x y v u, vs = [v, u] ∧ WOk M g H s ∧ RepP M g H x v ∧ RepP M g H y u ∧ Post M E (b2R f x y s) g H Q
theorem c_min2 (hc : X.calm = true) : CallR X (.builtin "min") (rB2 M E .min2) := by
  intro pins s σ H xs us Q I r ⟨g, st, x, y, v, u, e, w, q1, q2, h⟩
  refine call_min2 hc pins s σ H xs us Q I r ?_
  cases x with
  | d x =>
    cases y with
    | d y =>
      cases x with
      | int i =>
        cases y with
        | int j => rw [q1.int, q2.int] at e; exact ⟨i, j, e, Post.pure w h rfl⟩
        | _ => exact False.elim h
      | _ => cases y <;> exact False.elim h
    | _ => cases x <;> exact False.elim h
  | _ => exact False.elim h
theorem c_max2 (hc : X.calm = true) : CallR X (.builtin "max") (rB2 M E .max2) := by
  intro pins s σ H xs us Q I r ⟨g, st, x, y, v, u, e, w, q1, q2, h⟩
  refine call_max2 hc pins s σ H xs us Q I r ?_
  cases x with
  | d x =>
    cases y with
    | d y =>
      cases x with
      | int i =>
        cases y with
        | int j => rw [q1.int, q2.int] at e; exact ⟨i, j, e, Post.pure w h rfl⟩
        | _ => exact False.elim h
      | _ => cases y <;> exact False.elim h
    | _ => cases x <;> exact False.elim h
  | _ => exact False.elim h
end
end G
end
section
set_option Elab.async false
set_option linter.all false
set_option maxRecDepth 100000
set_option maxHeartbeats 1000000
/-! enumerate(x), x a tuple or a list -/
namespace G
open PySem PySem.Spec PyProof.Rows L2
theorem enum_new {v : Value} {o : Obj} {H : Heap → Prop} (B : Begins v o H) :
    Meets (Builtin.«enumerate.__new__» ⟨[.type "enumerate", v], []⟩) (fun _ R s => H s.heap ∧
      R (.ok (.ret (.ref (s.heap.push o).objs.size))) { s with heap := (s.heap.push o).push { cls := .type "enumerate", data := .fields #[.none, .bool false, .ref s.heap.objs.size, rawInt 0, .none, .none] } }) :=
  .of_wp fun prog w A R s h => by
    obtain ⟨hp, g, d, tk, os⟩ := s; obtain ⟨h1, h⟩ := h
    have hsub := sub_enumerate
    have q1 : ∀ {A' : Around} {E : Value → Shared → Prop} {Q : Value → Shared → Prop}, Q (.ref hp.objs.size) ⟨hp.push o, g, d, tk, os⟩ → wpAny (model prog w) A' (pyIter v) Q E ⟨hp, g, d, tk, os⟩ :=
      fun q => B.iter prog w _ _ ⟨hp, g, d, tk, os⟩ _ h1 q
    wp_walk using q1
    refine wpAny_stack_any fun st => wpAny_pure ?_
    split
    · rename_i c _ _ _ _ _
      cases (c == Value.type "enumerate")
      · wp_walk using q1
        exact ⟨_, rfl, h⟩
      · wp_walk using q1
        exact ⟨_, rfl, h⟩
    · wp_walk using q1
      exact ⟨_, rfl, h⟩
section
variable {prog : Program} {w : World} {A : Around} {E : Value → Shared → Prop} {s : Shared}
theorem enum_call {v : Value} {o : Obj} {H : Heap → Prop} {Q : Value → Shared → Prop} (B : Begins v o H) (h1 : H s.heap)
    (h : ∀ h', IsEnum h' (s.heap.objs.size + 1) s.heap.objs.size 0 .none → h'.get? s.heap.objs.size = some o → h'.objs.size = s.heap.objs.size + 2 →
      (∀ b o, s.heap.get? b = some o → h'.get? b = some o) → Q (.ref (s.heap.objs.size + 1)) { s with heap := h' }) :
    wpAny (model prog w) A (call (.type "enumerate") [v]) Q E s := by
  refine callType_new F.called_enumerate (by decide) (F.typeCall_enumerate_1 _) (F.newCall_enumerate_1 _) (fun obj => F.args_object_init_2 obj _) F.entry_enumerate_new (enum_new B) ⟨h1, ?_⟩
  have hz : (s.heap.push o).objs.size = s.heap.objs.size + 1 := Heap.size_push ..
  show _ ∧ _
  rw [hz]
  have he : IsEnum ((s.heap.push o).push { cls := .type "enumerate", data := .fields #[.none, .bool false, .ref s.heap.objs.size, rawInt 0, .none, .none] }) (s.heap.objs.size + 1) s.heap.objs.size 0 .none := by
    have := Heap.get?_push_size (s.heap.push o) (o := { cls := .type "enumerate", data := .fields #[.none, .bool false, .ref s.heap.objs.size, rawInt 0, .none, .none] }) rfl
    rw [hz] at this; exact this
  exact ⟨⟨_, he, rfl⟩, h _ he (Heap.get?_push_of_some _ (Heap.get?_push_size _ B.free)) (by rw [Heap.size_push, hz]) fun b o x => Heap.get?_push_of_some _ (Heap.get?_push_of_some _ x)⟩
end
/-- the tuple at a, each item in a new pair -/
def IteT (K : PySem.W.Frag) (a : Addr) : L2.It :=
  ⟨fun i H => ∃ (xs : List V) (x : V), SqT K H a xs ∧ xs[i]? = some x, fun i H v H' => ∃ T x o, o.dict = none ∧ v = .ref T ∧ H T = none ∧ H' = upd H T (.frz o (.tup [.int (i : Nat), x])) ∧ ∀ xs, SqT K H a xs → xs[i]? = some x, fun i H => ∃ xs : List V, SqT K H a xs ∧ xs.length ≤ i⟩
theorem turn_enumT {P : Program} {w : World} {K : PySem.W.Frag} {elts : List Expr} {kk : Nat} {tpos : Pos} (a e it : Addr) :
    Turn P w K (.Tuple elts kk tpos) (IteT K a) [e, it] e (fun i h => (∃ old, IsEnum h e it ((i : Nat) : Int) old) ∧ h.IsTupleIter it a i ∧ e ≠ it ∧ a ≠ it ∧ a ≠ e) where
  mem := by simp
  obj := fun i h st b hb => by
    obtain ⟨⟨old, he⟩, ⟨o, ho, hc, hd⟩, _⟩ := st
    have e' : b = e ∨ b = it := by simpa using hb
    rcases e' with z | z
    · rw [z]; exact ⟨_, he, fun v q => nomatch q⟩
    · rw [z]; exact ⟨o, ho, fun v q => by rw [hd] at q; cases q⟩
  keep := fun i h h' st k => let ⟨⟨old, he⟩, hi, hne⟩ := st; ⟨⟨old, k e (by simp) _ he⟩, hi.at fun o q => k it (by simp) o q, hne⟩
  item := by
    intro X hP hw hK hc i pins s σ H E I hf st hg
    subst hP hw hK
    obtain ⟨⟨old, he⟩, hit, hne, hai, hae⟩ := st
    obtain ⟨xs, x, hq, hx⟩ := hg
    obtain ⟨its, rv, p, hz⟩ := I.tuple hq
    obtain ⟨u, hu, ru⟩ := rv.get hx
    have hel : e < s.heap.objs.size := Heap.lt_size he
    have hil : it < s.heap.objs.size := by obtain ⟨_, q, _⟩ := hit; exact Heap.lt_size q
    have hlt : i < its.toArray.size := by
      have := (List.getElem?_eq_some_iff.mp hu).1
      simpa using this
    have D := Draws.tuple (prog := X.prog) (w := X.w) (A := X.A.in1) (by simpa using I.ok.hd hc) it a hai its.toArray
    refine wpAny_pyNext_enum_itemD D he ⟨hit, p⟩ hlt hne (by simp; exact ⟨hne, Ne.symm hae⟩) fun x' h' tk hP ho st' hT hsz hk => ?_
    have hx' : x' = u := by
      have : its[i]? = some x' := by simpa using hP
      rw [hu] at this
      exact (Option.some.inj this).symm
    subst hx'
    refine ⟨_, rfl, wpAny_letOwnedTupleGo_enum (s := { s with heap := h', toks := tk + 1 }) ho fun h'' he' sb => ?_⟩
    have hT2 : h''.get? s.heap.objs.size = some { cls := .type "tuple", data := .seq #[.int i tk, x'] } := (sb.2 _ (Nat.ne_of_gt hel)).trans hT
    have new : ObjOk X.prog X.w (upd H s.heap.objs.size (.frz (newT #[.int i tk, x']) (.tup [.int (i : Nat), x]))) h'' s.heap.objs.size (.frz (newT #[.int i tk, x']) (.tup [.int (i : Nat), x])) :=
      ⟨hT2, by show 2 ≤ sizeLine; decide, [.int i tk, x'], .cons ⟨_, rfl⟩ (.cons ru .nil), ⟨_, hT2, rfl, _, rfl⟩⟩
    have I1 : Inv X pins σ (upd H s.heap.objs.size (.frz (newT #[.int i tk, x']) (.tup [.int (i : Nat), x]))) { s with heap := h'', toks := tk + 1 } :=
      I.turnedNew (ch := [e, it]) (fun b ob hb q => (sb.2 b (fun z => hb (by simp [z]))).trans (hk b ob (fun z => hb (by simp [z])) (fun z => hb (by simp [z])) q)) hf (Nat.le_refl _) new
    refine ⟨.ref s.heap.objs.size, _, I1, rfl, ⟨_, x, _, rfl, rfl, I.hok.fresh (Nat.le_refl _), rfl, fun ys hy => by rw [I.tuple_inj hy hq]; exact hx⟩, ⟨⟨x', ?_⟩, st'.1.at fun o q => (sb.2 it (Ne.symm hne)).trans q, hne, hai, hae⟩, fun b hb => ?_⟩
    · have e1 : ((i + 1 : Nat) : Int) = (i : Int) + 1 := by omega
      rw [e1]; exact he'
    · have hb' : b < s.heap.objs.size := by
        have e' : b = e ∨ b = it := by simpa using hb
        rcases e' with z | z
        · rw [z]; exact hel
        · rw [z]; exact hil
      rw [upd_ne (Nat.ne_of_lt hb')]
      exact (hf b hb).1
  done := by
    intro X hP hw hK hc i pins s σ H E I hf st hg
    subst hP hw hK
    obtain ⟨⟨old, he⟩, hit, hne, hai, hae⟩ := st
    obtain ⟨xs, hq, hx⟩ := hg
    obtain ⟨its, rv, p, hz⟩ := I.tuple hq
    have hl := rv.length
    obtain ⟨f0, f1, f2, f3, f4, f5⟩ := hf it (by simp)
    have D := Draws.tuple (prog := X.prog) (w := X.w) (A := X.A.in1) (by simpa using I.ok.hd hc) it a hai (its.toArray)
    have hT : s.TypeIs (.ref e) "enumerate" := ⟨_, he, rfl⟩
    unfold pyNext
    refine wpAny_bind (wpAny_attempt (wpAny_callSpecial?_slot (name := Str.ofString "__next__") hT F.slot_enumerate_next
      (wpAny_call_entry F.slot_enumerate_next hT F.entry_enumerate_next ?_ (F.args_enumerate_next_1 _))))
    show wpAny _ _ (field (.ref e) 2 >>= _) _ _ _
    refine wpAny_bind (wpAny_field he rfl (x := .ref it) rfl ?_)
    refine wpAny_bind (wpAny_nextOf_tuple_end (by simpa using I.ok.hd hc) hit p (by simp; omega) fun h' x he' hx' => ?_)
    obtain ⟨o, ho, hc⟩ := hx'
    refine wpAny_bind (wpAny_isInstance (T := "StopIteration") (b := true) ⟨o, ho, hc⟩ isSubtype_stop ?_)
    exact wpAny_pure ⟨rfl, I.turned (t' := s.toks) (fun b o hb q => he' b o hb q) f0 f1 f3 f4 f5⟩
  self := fun A i s Q E st h => let ⟨⟨_, he⟩, _⟩ := st; wpAny_pyIter_enum he h
/-- the list at a, each item in a new pair -/
def IteL (K : PySem.W.Frag) (a : Addr) : L2.It :=
  ⟨fun i H => ∃ (xs : List V) (x : V), SqL K H a xs ∧ xs[i]? = some x, fun i H v H' => ∃ T x o, o.dict = none ∧ v = .ref T ∧ H T = none ∧ H' = upd H T (.frz o (.tup [.int (i : Nat), x])) ∧ ∀ xs, SqL K H a xs → xs[i]? = some x, fun i H => ∃ xs : List V, SqL K H a xs ∧ xs.length ≤ i⟩
theorem turn_enumL {P : Program} {w : World} {K : PySem.W.Frag} {elts : List Expr} {kk : Nat} {tpos : Pos} (a e it : Addr) :
    Turn P w K (.Tuple elts kk tpos) (IteL K a) [e, it] e (fun i h => (∃ old, IsEnum h e it ((i : Nat) : Int) old) ∧ h.IsListIter it a i ∧ e ≠ it) where
  mem := by simp
  obj := (turn_enum (P := P) (w := w) (K := K) (elts := elts) (kk := kk) (tpos := tpos) a e it).obj
  keep := (turn_enum (P := P) (w := w) (K := K) (elts := elts) (kk := kk) (tpos := tpos) a e it).keep
  item := by
    intro X hP hw hK hc i pins s σ H E I hf st hg
    subst hP hw hK
    obtain ⟨⟨old, he⟩, hit, hne⟩ := st
    obtain ⟨xs, x, hq, hx⟩ := hg
    obtain ⟨its, rv, p, hz⟩ := I.list hq
    obtain ⟨u, hu, ru⟩ := rv.get hx
    have hel : e < s.heap.objs.size := Heap.lt_size he
    have hil : it < s.heap.objs.size := by obtain ⟨_, q, _⟩ := hit; exact Heap.lt_size q
    refine wpAny_pyNext_enum_item he hit p.isList (x := u) (by simpa using hu) hne fun h' ho hit' hT hsz hk => ?_
    refine ⟨_, rfl, wpAny_letOwnedTupleGo_enum (s := { s with heap := h', toks := s.toks + 1 }) ho fun h'' he' sb => ?_⟩
    have hT2 : h''.get? s.heap.objs.size = some (newT #[.int i s.toks, u]) := (sb.2 _ (Nat.ne_of_gt hel)).trans hT
    have I1 : Inv X pins σ (upd H s.heap.objs.size (.frz (newT #[.int i s.toks, u]) (.tup [.int (i : Nat), x]))) { s with heap := h'', toks := s.toks + 1 } :=
      I.turnedNew (ch := [e, it]) (fun b ob hb q => (sb.2 b (fun z => hb (by simp [z]))).trans (hk b ob (fun z => hb (by simp [z])) (fun z => hb (by simp [z])) q)) hf (Nat.le_refl _)
        ⟨hT2, by show 2 ≤ sizeLine; decide, [.int i s.toks, u], .cons ⟨_, rfl⟩ (.cons ru .nil), ⟨_, hT2, rfl, _, rfl⟩⟩
    refine ⟨.ref s.heap.objs.size, _, I1, rfl, ⟨_, x, _, rfl, rfl, I.hok.fresh (Nat.le_refl _), rfl, fun ys hy => by rw [I.list_inj hy hq]; exact hx⟩, ⟨⟨u, ?_⟩, hit'.at fun o q => (sb.2 it (Ne.symm hne)).trans q, hne⟩, fun b hb => ?_⟩
    · have e1 : ((i + 1 : Nat) : Int) = (i : Int) + 1 := by omega
      rw [e1]; exact he'
    · have hb' : b < s.heap.objs.size := by
        have e' : b = e ∨ b = it := by simpa using hb
        rcases e' with z | z
        · rw [z]; exact hel
        · rw [z]; exact hil
      rw [upd_ne (Nat.ne_of_lt hb')]
      exact (hf b hb).1
  done := (turn_enum (P := P) (w := w) (K := K) (elts := elts) (kk := kk) (tpos := tpos) a e it).done
  self := (turn_enum (P := P) (w := w) (K := K) (elts := elts) (kk := kk) (tpos := tpos) a e it).self
def iEnumA (K : PySem.W.Frag) (te : TE) : TI := fun σ H R => te σ H fun v H1 => ∃ a xs, v = .ref a ∧ ((SqL K H1 a xs ∧ R (IteL K a) H1) ∨ (SqT K H1 a xs ∧ R (IteT K a) H1))
theorem pi_enumA {X : Cx} {e : Expr} {te : TE} {p pos tpos : Pos} {elts : List Expr} {kk : Nat} (hg : Gl X "enumerate") (hm : X.mg "enumerate" = none) (he : PE X e te) (hs : starEach [e] X.env = (false, eval e X.env) :: starEach [] X.env) :
    PI X (.Tuple elts kk tpos) (.Call (.Name "enumerate" p) [e] [] pos) (iEnumA X.K te) := by
  refine ⟨fun pins s σ H R I h => ?_⟩
  refine Call_ (ld_blt I hg hm boot_enumerate (PyProof.Rows.callWith_type1 (args_cons (thn (he.run pins s σ H _ I h) fun u s1 ⟨v, H1, I1, r1, q1⟩ => args_nil ?_) hs) hs rfl))
  obtain ⟨a, xs, ev, q⟩ := q1
  subst ev
  obtain rfl : u = Value.ref a := r1
  rcases q with ⟨hq, q⟩ | ⟨hq, q⟩
  · obtain ⟨its, rv, p', hz⟩ := I1.list hq
    refine call_enumerate_list p'.isList fun h' he hit hsz hk => wpAny_pyIter_enum he ?_
    have I2 : Inv X pins σ H1 { s1 with heap := h' } := I1.kept (t' := s1.toks) hk
    refine ⟨s1.heap.objs.size + 1, [s1.heap.objs.size + 1, s1.heap.objs.size], _, _, H1, rfl, I2, turn_enumL a (s1.heap.objs.size + 1) s1.heap.objs.size, ⟨⟨.none, he⟩, hit, Nat.succ_ne_self _⟩, fun b hb => ?_, q⟩
    have e' : b = s1.heap.objs.size + 1 ∨ b = s1.heap.objs.size := by simpa using hb
    have hle : s1.heap.objs.size ≤ b := by
      rcases e' with z | z
      · rw [z]; exact Nat.le_add_right _ _
      · rw [z]; exact Nat.le_refl _
    exact I1.fpOk hle (I1.hok.fresh hle)
  · obtain ⟨its, rv, p', hz⟩ := I1.tuple hq
    have ht : s1.heap.IsTuple a its.toArray := p'
    have hlt : a < s1.heap.objs.size := by obtain ⟨o, ho, _⟩ := p'; exact Heap.lt_size ho
    refine enum_call (begins_tuple a its.toArray) ht fun h' he ho hsz hk => wpAny_pyIter_enum he ?_
    have I2 : Inv X pins σ H1 { s1 with heap := h' } := I1.kept (t' := s1.toks) hk
    refine ⟨s1.heap.objs.size + 1, [s1.heap.objs.size + 1, s1.heap.objs.size], _, _, H1, rfl, I2, turn_enumT a (s1.heap.objs.size + 1) s1.heap.objs.size, ⟨⟨.none, he⟩, ⟨_, ho, rfl, rfl⟩, Nat.succ_ne_self _, Nat.ne_of_lt hlt, Nat.ne_of_lt (Nat.lt_succ_of_lt hlt)⟩, fun b hb => ?_, q⟩
    have e' : b = s1.heap.objs.size + 1 ∨ b = s1.heap.objs.size := by simpa using hb
    have hle : s1.heap.objs.size ≤ b := by
      rcases e' with z | z
      · rw [z]; exact Nat.le_add_right _ _
      · rw [z]; exact Nat.le_refl _
    exact I1.fpOk hle (I1.hok.fresh hle)
end G
end
section
set_option Elab.async false
set_option linter.all false
set_option maxRecDepth 100000
set_option maxHeartbeats 1000000
/-! calls with arguments; what is walked; targets; comprehensions -/
namespace G
open PySem PySem.Spec PyProof.Rows L2
/-- no star -/
def noStar : Expr → Bool
  | .Starred _ _ => false
  | _ => true
theorem star_of {e : Expr} {es : List Expr} {env : PySem.Env} (h : noStar e = true) : starEach (e :: es) env = (false, eval e env) :: starEach es env := by
  cases e <;> first | rfl | cases h
theorem star_one {e : Expr} {env : PySem.Env} (h : noStar e = true) : starEach [e] env = [(false, eval e env)] := by rw [star_of h]; rfl
theorem star_two {e f : Expr} {env : PySem.Env} (h : noStar e = true) (k : noStar f = true) : starEach [e, f] env = [(false, eval e env), (false, eval f env)] := by rw [star_of h, star_one k]
theorem star_any {env : PySem.Env} : ∀ {es : List Expr}, es.all noStar = true → (starEach es env).any (·.1) = false
  | [], _ => rfl
  | e :: es, h => by
    rw [List.all_cons, Bool.and_eq_true] at h
    rw [star_of h.1, List.any_cons, star_any h.2]
    rfl
theorem plain_of {pos : Pos} {env : PySem.Env} {es : List Expr} (h : es.all noStar = true) : (backTo pos (starEach es env)).any (·.1) = false := by
  unfold backTo
  rw [List.any_map]
  exact star_any h
section
variable {X : Cx} {M : Mw} {Φ : Nat → Option Fn} {E : XK} {L : Nat} {a b : Expr} {ca cb : C} {x : Str} {p pos : Pos} {id : String}
theorem s_b1 {f : B1} (hc : CallR X (.builtin id) (rB1 M E f)) (hg : Gl X x) (hm : X.mg x = none) (hv : bootBuiltins x = some (.builtin id)) (hn : x ≠ "__name__") (hd : (x == ("__debug__" : Str)) = false) (h1 : noStar a = true)
    (ha : PE X a (tP M Φ ca E)) : PE X (.Call (.Name x p) [a] [] pos) (tC M Φ (.b1 f ca) E) := by
  refine (pe_callB hc hg hm hv (pa_cons ha pa_nil (star_of h1)) hn hd (star_of h1) rfl).imp fun σ H Q ⟨g, H0, δ, s, w, so, h⟩ => ?_
  unfold evC at h
  exact tP.bind w so h fun v H1 g1 y s1 l w so r h1 => ⟨g1, s1, y, v, rfl, w, r, h1⟩
theorem s_b1T {f : B1} (hc : CallR X (.type id) (rB1 M E f)) (hg : Gl X x) (hm : X.mg x = none) (hv : bootBuiltins x = some (.type id)) (hn : x ≠ "__name__") (hd : (x == ("__debug__" : Str)) = false) (h1 : noStar a = true)
    (ha : PE X a (tP M Φ ca E)) : PE X (.Call (.Name x p) [a] [] pos) (tC M Φ (.b1 f ca) E) := by
  refine (pe_callTy hc hg hm hv (pa_cons ha pa_nil (star_of h1)) hn hd (star_of h1) rfl).imp fun σ H Q ⟨g, H0, δ, s, w, so, h⟩ => ?_
  unfold evC at h
  exact tP.bind w so h fun v H1 g1 y s1 l w so r h1 => ⟨g1, s1, y, v, rfl, w, r, h1⟩
/-- as a fresh list -/
theorem tF.bindP {f : B1} {σ : L2.St} {H : Hp} {Q : VK} (q : tF M Φ (.b1 f ca) E σ H Q) : tP M Φ ca E σ H fun v H1 => rB1F M E f [v] H1 Q := by
  obtain ⟨g, H0, δ, s, w, so, h⟩ := q
  unfold evC at h
  refine ⟨g, H0, δ, s, w, so, ?_⟩
  cases e : peek ca δ s (evC M.gl Φ ca δ s) with
  | ok y s1 => exact fun v g1 H1 l w r => ⟨g, H, g1, s1, y, v, rfl, l, w, r, by rw [e] at h; exact h⟩
  | exc c s1 => rw [e] at h; exact h
  | bad => rw [e] at h; exact h
theorem f_b1 {f : B1} (hc : CallR X (.builtin id) (rB1F M E f)) (hg : Gl X x) (hm : X.mg x = none) (hv : bootBuiltins x = some (.builtin id)) (hn : x ≠ "__name__") (hd : (x == ("__debug__" : Str)) = false) (h1 : noStar a = true)
    (ha : PE X a (tP M Φ ca E)) : PE X (.Call (.Name x p) [a] [] pos) (tF M Φ (.b1 f ca) E) :=
  (pe_callB hc hg hm hv (pa_cons ha pa_nil (star_of h1)) hn hd (star_of h1) rfl).imp fun σ H Q q => tF.bindP q
theorem f_b1T {f : B1} (hc : CallR X (.type id) (rB1F M E f)) (hg : Gl X x) (hm : X.mg x = none) (hv : bootBuiltins x = some (.type id)) (hn : x ≠ "__name__") (hd : (x == ("__debug__" : Str)) = false) (h1 : noStar a = true)
    (ha : PE X a (tP M Φ ca E)) : PE X (.Call (.Name x p) [a] [] pos) (tF M Φ (.b1 f ca) E) :=
  (pe_callTy hc hg hm hv (pa_cons ha pa_nil (star_of h1)) hn hd (star_of h1) rfl).imp fun σ H Q q => tF.bindP q
/-- what is told fresh may be kept for ever -/
theorem s_ofF (hf : PE X a (tF M Φ ca E)) (hl : ∀ δ s w s', evC M.gl Φ ca δ s = .ok w s' → ∃ ds, w = .d (.lst ds)) : PE X a (tC M Φ ca E) :=
  hf.imp fun σ H Q ⟨g, H0, δ, s, w, so, h⟩ => ⟨g, H0, δ, s, w, so, Post.fresh w h fun w s e => hl δ _ w s e⟩
theorem s_b2 {f : B2} (hf : ∀ x, fstOk f x = true) (hc : CallR X (.builtin id) (rB2 M E f)) (hg : Gl X x) (hm : X.mg x = none) (hv : bootBuiltins x = some (.builtin id)) (hn : x ≠ "__name__") (hd : (x == ("__debug__" : Str)) = false) (h1 : noStar a = true) (h2 : noStar b = true)
    (ha : PE X a (tC M Φ ca E)) (hb : PE X b (tC M Φ cb E)) : PE X (.Call (.Name x p) [a, b] [] pos) (tC M Φ (.b2 f ca cb) E) := by
  refine (pe_callB hc hg hm hv (pa_cons ha (pa_cons hb pa_nil (star_of h2)) (star_of h1)) hn hd (star_of h1) (plain_of (by simp [h2]))).imp fun σ H Q ⟨g, H0, δ, s, w, so, h⟩ => ?_
  unfold evC at h
  refine tC.bind w so h fun v H1 g1 y s1 l1 w1 so1 r1 h1 => ?_
  rw [if_pos (hf y)] at h1
  refine tC.bind w1 so1 h1 fun u H2 g2 z s2 l2 w2 so2 r2 h2 => ?_
  exact ⟨g2, s2, y, z, v, u, rfl, w2, .of (r1.mono l2), .of r2, h2⟩
/-! ### isinstance -/
def tyN : Ty → String
  | .int => "int" | .bool => "bool" | .str => "str" | .tuple => "tuple" | .list => "list"
def dTy : D → String
  | .non => "NoneType" | .bl _ => "bool" | .int _ => "int" | .str _ => "str" | .tup _ => "tuple" | .lst _ => "list"
theorem kit_all (d : D) (t : Ty) : kitB (dTy d) (tyN t) = some (isiD d t) := by
  cases d <;> cases t <;> (simp only [dTy, tyN, isiD]; decide +kernel)
theorem rep_ty {K : PySem.W.Frag} {M : Mw} {g : Gh} {H : Hp} {s : Sto} (w : WOk M g H s) {d : D} {v : V} (h : Rep K g.F d v) : TyX K H v (.type (dTy d)) := by
  cases d with
  | non => rw [show v = V.non from h]; exact .base .non
  | bl b => rw [show v = V.bl b from h]; exact .base (.bl b)
  | int b => rw [show v = V.int b from h]; exact .base (.int b)
  | str b => rw [show v = V.str (sS b) from h]; exact .base (.str _)
  | tup ds =>
    obtain ⟨a, vs, rfl, q, _⟩ := h
    rcases q with q | ⟨o, its, n, q1, q2, _⟩
    · rcases w.sub.rd q with q | ⟨o, q⟩
      · exact .base (.tup q)
      · exact .fTuple q
    · exact .kTuple q1 q2
  | lst ds =>
    obtain ⟨a, vs, rfl, q, _⟩ := h
    exact .base (.lst (w.sub _ _ q))
theorem s_isi {t : Ty} {y : Str} {q : Pos} (hK : X.K = M.K) (hg : Gl X "isinstance") (hm : X.mg "isinstance" = none) (hg2 : Gl X y) (hm2 : X.mg y = none) (hv2 : bootBuiltins y = some (.type (tyN t))) (hn : y ≠ "__name__") (hd : (y == ("__debug__" : Str)) = false) (h1 : noStar a = true)
    (ha : PE X a (tC M Φ ca E)) : PE X (.Call (.Name "isinstance" p) [a, .Name y q] [] pos) (tC M Φ (.isi ca t) E) := by
  refine (pe_callB call_isi hg hm (by rfl) (pa_cons ha (pa_cons (pe_bltn (v := .ty (tyN t)) hg2 hm2 hv2 rfl hn hd) pa_nil rfl) (star_of h1)) (by decide) (by decide) (star_of h1) rfl).imp fun σ H Q ⟨g, H0, δ, s, w, so, h⟩ => ?_
  unfold evC at h
  refine tC.bind w so h fun v H1 g1 y s1 l1 w1 so1 r1 h1 => ?_
  cases y with
  | d d => exact ⟨v, .ty (tyN t), .type (dTy d), .type (tyN t), isiD d t, rfl, .ty _, by rw [hK]; exact rep_ty w1 r1, kit_ty (kit_all d t), Post.bl w1 h1⟩
  | _ => exact False.elim h1
end
end G
end
section
set_option Elab.async false
set_option linter.all false
set_option maxRecDepth 100000
set_option maxHeartbeats 1000000
/-! slots, targets, what is walked, list comprehensions -/
namespace G
open PySem PySem.Spec PyProof.Rows L2
/-! ### worlds, written -/
section
variable {M : Mw} {g g' : Gh} {H H' : Hp} {s : Sto} {p : Addr} {o : HO}
theorem Le.write (l : Le g H g' H') (h : H p = none) : Le g H g' (upd H' p o) where
  fr := l.fr
  new := l.new
  keep := fun a u e h1 h2 h3 => by rw [upd_ne (ne_of_none e h)]; exact l.keep a u e h1 h2 h3
  there := fun a e => by
    by_cases ha : a = p
    · subst ha; rw [upd_same]; simp
    · rw [upd_ne ha]; exact l.there a e
  da := l.da
  ba := l.ba
theorem tab_at {T : List (Addr × Str)} {xs ys : List V} (t : LamX.Tabs T H) (h : H p = some (.lst xs)) : LamX.Tabs T (upd H p (.lst ys)) := by
  intro q hq
  obtain ⟨ps, h1, h2⟩ := t q hq
  refine ⟨ps, by rw [upd_ne (ne_of h1 h (by simp))]; exact h1, h2.1, fun pos cv hc => ?_⟩
  obtain ⟨c, e1, e2⟩ := h2.2 pos cv hc
  exact ⟨c, e1, by rw [upd_ne (ne_of e2 h (by unfold LamX.CodeO; simp))]; exact e2⟩
theorem WOk.write {xs ys : List V} (w : WOk M g H s) (h : H p = some (.lst xs)) (hF : g.F p = none) (hd : p ≠ g.da) : WOk M g (upd H p (.lst ys)) s where
  sub := fun a u e => by
    have : a ≠ p := fun z => by subst z; rw [hF] at e; cases e
    rw [upd_ne this]; exact w.sub _ _ e
  dan := by rw [upd_ne (Ne.symm hd)]; exact w.dan
  ban := by
    by_cases hb : g.ba = p
    · rw [hb, upd_same]; simp
    · rw [upd_ne hb]; exact w.ban
  dice := fun c m e => by
    obtain ⟨h1, h2⟩ := w.dice c m e
    exact ⟨by rw [upd_ne (Ne.symm hd)]; exact h1, h2⟩
  book := w.book
  tabs := tab_at w.tabs h
  ntab := w.ntab
theorem Le.noF (l : Le g H g' H') (h : g.F p = none) (hH : H p ≠ none) : g'.F p = none := by
  cases q : g'.F p with
  | none => rfl
  | some u =>
    rcases l.new p u q with z | z
    · rw [h] at z; cases z
    · exact absurd z hH
end
/-! ### slots -/
def wipeE : List Nat → Env → Env
  | [], δ => δ
  | i :: is, δ => (wipeE is δ).set i .no
section
variable {M : Mw} {g : Gh} {H0 H : Hp} {σ : L2.St} {δ : Env} {i : Nat}
theorem get_set {α : Type} {xs : List α} {i j : Nat} {x : α} : (xs.set i x)[j]? = if i = j ∧ i < xs.length then some x else xs[j]? := by
  by_cases h : i = j
  · subst h
    by_cases hl : i < xs.length
    · simp [hl]
    · simp [hl]
  · simp [h]
theorem SOk.put (so : SOk M g H0 H σ δ) (v : Option V) (sl : Slot) (hs : ∀ w, sl = .w w → ∃ u, v = some u ∧ RepW M g w u) (hn : isOwn (some sl) = false) : SOk M g H0 H (σ.set i v) (δ.set i sl) where
  len := by rw [List.length_set, List.length_set]; exact so.len
  w := fun j w e => by
    rw [get_set] at e ⊢
    rw [so.len] at e
    by_cases h : i = j ∧ i < σ.length
    · rw [if_pos h] at e ⊢
      obtain ⟨u, e1, e2⟩ := hs w (Option.some.inj e)
      exact ⟨u, by rw [e1], e2⟩
    · rw [if_neg h] at e ⊢
      exact so.w j w e
  own := fun j ds e => by
    rw [get_set] at e ⊢
    rw [so.len] at e
    by_cases h : i = j ∧ i < σ.length
    · rw [if_pos h] at e
      rw [Option.some.inj e] at hn
      cases hn
    · rw [if_neg h] at e ⊢
      exact so.own j ds e
  ownd := fun j ds e => by
    rw [get_set] at e ⊢
    rw [so.len] at e
    by_cases h : i = j ∧ i < σ.length
    · rw [if_pos h] at e
      rw [Option.some.inj e] at hn
      cases hn
    · rw [if_neg h] at e ⊢
      exact so.ownd j ds e
  apart := fun j k a hjk h1 h2 h3 => by
    rw [get_set] at h1 h2 h3
    rw [get_set]
    rw [so.len] at h1 h2
    by_cases hj : i = j ∧ i < σ.length
    · rw [if_pos hj, hn] at h1; cases h1
    · rw [if_neg hj] at h1 h3
      by_cases hk : i = k ∧ i < σ.length
      · rw [if_pos hk, hn] at h2; cases h2
      · rw [if_neg hk] at h2 ⊢
        exact so.apart j k a hjk h1 h2 h3
theorem SOk.setW {w : W} {v : V} (so : SOk M g H0 H σ δ) (r : RepW M g w v) : SOk M g H0 H (σ.set i (some v)) (δ.set i (.w w)) :=
  so.put _ _ (fun w' e => by cases e; exact ⟨v, rfl, r⟩) rfl
theorem SOk.wipe (so : SOk M g H0 H σ δ) : ∀ is : List Nat, SOk M g H0 H (L2.wipe σ is) (wipeE is δ)
  | [] => so
  | i :: is => (SOk.wipe so is).put none .no (fun w e => by cases e) rfl
end
theorem wipeE_len (δ : Env) : ∀ is : List Nat, (wipeE is δ).length = δ.length
  | [] => rfl
  | i :: is => by rw [wipeE, List.length_set, wipeE_len δ is]
theorem wipeE_get {δ : Env} {j : Nat} : ∀ {is : List Nat}, j ∉ is → (wipeE is δ)[j]? = δ[j]?
  | [], _ => rfl
  | i :: is, h => by
    rw [List.mem_cons, not_or] at h
    rw [wipeE, get_set, if_neg (fun z => h.1 z.1.symm), wipeE_get h.2]
theorem setEach_eq : ∀ (is : List Nat) (ds : List D) {δ ε : Env}, δ.length = ε.length → (∀ j, j ∉ is → δ[j]? = ε[j]?) → setEach is ds δ = setEach is ds ε
  | [], [], δ, ε, hl, h => by
    have : δ = ε := List.ext_getElem? fun j => h j (by simp)
    rw [this]
  | [], _ :: _, _, _, _, _ => rfl
  | _ :: _, [], _, _, _, _ => rfl
  | i :: is, d :: ds, δ, ε, hl, h => by
    unfold setEach
    refine setEach_eq is ds (by rw [List.length_set, List.length_set]; exact hl) fun j hj => ?_
    rw [get_set, get_set, hl]
    by_cases hij : i = j ∧ i < ε.length
    · rw [if_pos hij, if_pos hij]
    · rw [if_neg hij, if_neg hij]
      by_cases e : j = i
      · have h1 : ¬ i < ε.length := fun z => hij ⟨e.symm, z⟩
        rw [List.getElem?_eq_none (by omega), List.getElem?_eq_none (by omega)]
      · exact h j (by rw [List.mem_cons, not_or]; exact ⟨e, hj⟩)
theorem setTg_wipe {tup : Bool} {is : List Nat} {d : D} {δ : Env} : setTg tup is d (wipeE is δ) = setTg tup is d δ := by
  have hE : ∀ ds, setEach is ds (wipeE is δ) = setEach is ds δ := fun ds => setEach_eq is ds (wipeE_len δ is) fun j hj => wipeE_get hj
  have h1 : ∀ i, is = [i] → ∀ sl, (wipeE is δ).set i sl = δ.set i sl := fun i e sl => by
    subst e
    show (δ.set i .no).set i sl = _
    rw [List.set_set]
  unfold setTg
  split
  · rename_i d' i
    rw [h1 i rfl]
  · exact hE _
  · rfl
theorem wipe_out {σ : L2.St} {j : Nat} : ∀ {is : List Nat}, j ∉ is → (L2.wipe σ is)[j]? = σ[j]?
  | [], _ => rfl
  | i :: is, h => by
    rw [List.mem_cons, not_or] at h
    rw [L2.wipe, get_set, if_neg (fun z => h.1 z.1.symm), wipe_out h.2]
theorem wipe_in {σ : L2.St} {j : Nat} : ∀ {is : List Nat}, j ∈ is → (L2.wipe σ is)[j]? = if j < σ.length then some none else none
  | i :: is, h => by
    rw [L2.wipe, get_set, L2.wipe_length]
    by_cases e : i = j
    · subst e
      by_cases hl : i < σ.length
      · rw [if_pos ⟨rfl, hl⟩, if_pos hl]
      · rw [if_neg (fun z => hl z.2), if_neg hl, List.getElem?_eq_none (by rw [L2.wipe_length]; omega)]
    · rw [if_neg (fun z => e z.1)]
      rcases List.mem_cons.mp h with z | z
      · exact absurd z.symm e
      · exact wipe_in z
theorem wipe_eq {σ τ : L2.St} {is : List Nat} (hl : τ.length = σ.length) (h : ∀ j, j ∉ is → τ[j]? = σ[j]?) : L2.wipe τ is = L2.wipe σ is := by
  refine List.ext_getElem? fun j => ?_
  by_cases hj : j ∈ is
  · rw [wipe_in hj, wipe_in hj, hl]
  · rw [wipe_out hj, wipe_out hj, h j hj]
/-! ### targets -/
def gEach : List Nat → TGs
  | [] => gNil
  | i :: is => gCons (gName i) (gEach is)
def gOf (K : PySem.W.Frag) (tup : Bool) (is : List Nat) : TG := if tup = true then gTup K is.length (gEach is) else gName (is.headD 0)
theorem gEach_ok {M : Mw} {g : Gh} {H0 H : Hp} {Q : L2.St → Hp → Prop} : ∀ (is : List Nat) (ds : List D) (vs : List V) {σ : L2.St} {δ δ' : Env}, SOk M g H0 H σ δ → setEach is ds δ = some δ' → Reps M.K g.F ds vs →
    (∀ σ', SOk M g H0 H σ' δ' → σ'.length = σ.length → (∀ j, j ∉ is → σ'[j]? = σ[j]?) → Q σ' H) → gEach is vs σ H Q
  | [], [], vs, σ, δ, δ', so, e, r, k => by
    cases e
    exact ⟨r, k σ so rfl fun _ _ => rfl⟩
  | [], _ :: _, _, _, _, _, _, e, _, _ => by cases e
  | _ :: _, [], _, _, _, _, _, e, _, _ => by cases e
  | i :: is, d :: ds, vs, σ, δ, δ', so, e, r, k => by
    obtain ⟨v, t, rfl, q, r⟩ := r
    refine ⟨v, t, rfl, ?_⟩
    show gEach is t (σ.set i (some v)) H Q
    refine gEach_ok is ds t (so.setW (w := .d d) q) e r fun σ' so' hl hj => k σ' so' (by rw [hl, List.length_set]) fun j hj' => ?_
    rw [List.mem_cons, not_or] at hj'
    rw [hj j hj'.2, get_set, if_neg fun z => hj'.1 z.1.symm]
theorem gOf_ok {M : Mw} {g : Gh} {H0 H : Hp} {s : Sto} {Q : L2.St → Hp → Prop} {tup : Bool} {is : List Nat} {d : D} {v : V} {σ : L2.St} {δ δ' : Env} (w : WOk M g H s) (so : SOk M g H0 H σ δ) (e : setTg tup is d δ = some δ') (r : Rep M.K g.F d v)
    (k : ∀ σ', SOk M g H0 H σ' δ' → σ'.length = σ.length → (∀ j, j ∉ is → σ'[j]? = σ[j]?) → Q σ' H) : gOf M.K tup is v σ H Q := by
  unfold setTg at e
  split at e
  · rename_i d' i
    cases e
    show Q (σ.set i (some v)) H
    refine k _ (so.setW (w := .d d) r) (by rw [List.length_set]) fun j hj => ?_
    rw [get_set, if_neg fun z => hj (by rw [z.1]; simp)]
  · rename_i ds
    obtain ⟨a, vs, rfl, q, r⟩ := r
    have hl : vs.length = is.length := by
      have h1 := r.length
      have : ∀ (is : List Nat) (ds : List D) {δ δ' : Env}, setEach is ds δ = some δ' → ds.length = is.length := by
        intro is
        induction is with
        | nil => intro ds δ δ' e; cases ds <;> first | rfl | cases e
        | cons i is ih => intro ds δ δ' e; cases ds with
          | nil => cases e
          | cons d ds => rw [List.length_cons, List.length_cons, ih ds e]
      rw [h1, this is ds e]
    exact ⟨a, vs, rfl, q.mono' w, hl, gEach_ok is ds vs so e r k⟩
  · cases e
end G
end
section
set_option Elab.async false
set_option linter.all false
set_option maxRecDepth 100000
set_option maxHeartbeats 1000000
/-! what is walked; list comprehensions -/
namespace G
open PySem PySem.Spec PyProof.Rows L2
/-- the things that it yields stand for ds -/
structure WalkD (M : Mw) (g : Gh) (J : L2.It) (ds : List D) : Prop where
  go : ∀ (i : Nat) (g' : Gh) (H : Hp) (s : Sto), Sub g.F g'.F → WOk M g' H s → i < ds.length → J.go i H
  stop : ∀ (g' : Gh) (H : Hp) (s : Sto), Sub g.F g'.F → WOk M g' H s → J.stop ds.length H
  yld : ∀ (i : Nat) (g' : Gh) (H : Hp) (s : Sto) (x : V) (H' : Hp), Sub g.F g'.F → WOk M g' H s → i < ds.length → J.yld i H x H' → ∃ g'' d, Le g' H g'' H' ∧ WOk M g'' H' s ∧ ds[i]? = some d ∧ Rep M.K g''.F d x
/-- the same, seen from a heap: what was there stays there -/
structure WalkL (M : Mw) (g : Gh) (H0 : Hp) (J : L2.It) (ds : List D) : Prop where
  go : ∀ (i : Nat) (g' : Gh) (H : Hp) (s : Sto), Le g H0 g' H → WOk M g' H s → i < ds.length → J.go i H
  stop : ∀ (g' : Gh) (H : Hp) (s : Sto), Le g H0 g' H → WOk M g' H s → J.stop ds.length H
  yld : ∀ (i : Nat) (g' : Gh) (H : Hp) (s : Sto) (x : V) (H' : Hp), Le g H0 g' H → WOk M g' H s → i < ds.length → J.yld i H x H' → ∃ g'' d, Le g' H g'' H' ∧ WOk M g'' H' s ∧ ds[i]? = some d ∧ Rep M.K g''.F d x
theorem WalkD.toL {M : Mw} {g : Gh} {J : L2.It} {ds : List D} (w : WalkD M g J ds) (H0 : Hp) : WalkL M g H0 J ds :=
  ⟨fun i g' H s l => w.go i g' H s l.fr, fun g' H s l => w.stop g' H s l.fr, fun i g' H s x H' l => w.yld i g' H s x H' l.fr⟩
def tIL (M : Mw) (Φ : Nat → Option Fn) (it : It) (E : XK) : TI := fun σ H R => ∃ g H0 δ s, WOk M g H s ∧ SOk M g H0 H σ δ ∧ PostG M E (fun g H ds J => WalkL M g H J ds) (evIt M.gl Φ it δ s) g H R
def tI (M : Mw) (Φ : Nat → Option Fn) (it : It) (E : XK) : TI := fun σ H R => ∃ g H0 δ s, WOk M g H s ∧ SOk M g H0 H σ δ ∧ PostG M E (fun g _ ds J => WalkD M g J ds) (evIt M.gl Φ it δ s) g H R
theorem _root_.L2.PI.imp {X : Cx} {tg e : Expr} {t t' : TI} (h : PI X tg e t) (k : ∀ σ H Q, t' σ H Q → t σ H Q) : PI X tg e t' := ⟨fun pins s σ H Q I q => h.run pins s σ H Q I (k σ H Q q)⟩
theorem _root_.L2.PTs.imp {X : Cx} {e : List Expr} {t t' : TT} (h : PTs X e t) (k : ∀ σ H Q, t' σ H Q → t σ H Q) : PTs X e t' := ⟨fun pins s σ H Q I q => h.run pins s σ H Q I (k σ H Q q)⟩
section
variable {M : Mw} {g : Gh} {ds es : List D} {vs us : List V} {a b : Addr}
theorem get_some {α : Type} {xs : List α} {i : Nat} (h : i < xs.length) : ∃ x, xs[i]? = some x := ⟨xs[i], by simp [h]⟩
theorem walk_at {J : L2.It} {xs : List V} (hr : Reps M.K g.F ds xs) (hg : ∀ i g' H s, Sub g.F g'.F → WOk M g' H s → ∀ x, xs[i]? = some x → J.go i H) (hs : ∀ g' H s, Sub g.F g'.F → WOk M g' H s → J.stop xs.length H)
    (hy : ∀ i g' H s x H', Sub g.F g'.F → WOk M g' H s → i < xs.length → J.yld i H x H' → H' = H ∧ xs[i]? = some x) : WalkD M g J ds where
  go := fun i g' H s sb w hi => by
    have hl := hr.length
    obtain ⟨x, hx⟩ := get_some (xs := xs) (i := i) (by omega)
    exact hg i g' H s sb w x hx
  stop := fun g' H s sb w => by rw [← hr.length]; exact hs g' H s sb w
  yld := fun i g' H s x H' sb w hi y => by
    obtain ⟨rfl, e⟩ := hy i g' H s x H' sb w (by rw [hr.length]; exact hi) y
    obtain ⟨d, e1, e2⟩ := hr.getV e
    exact ⟨g', d, Le.refl _ _, w, e1, e2.mono sb⟩
theorem walk_l (h : g.F a = some (.lst vs)) (r : Reps M.K g.F ds vs) : WalkD M g (Itl M.K a) ds := by
  have hs : ∀ (g' : Gh) (H : Hp) (s : Sto), Sub g.F g'.F → WOk M g' H s → SqL M.K H a vs := fun g' H s sb w => SqL.of (w.sub _ _ (sb _ _ h))
  exact walk_at r (fun i g' H s sb w x hx => ⟨vs, x, hs g' H s sb w, hx⟩) (fun g' H s sb w => ⟨vs, hs g' H s sb w, Nat.le_refl _⟩) fun i g' H s x H' sb w hi y => ⟨y.1, y.2 vs (hs g' H s sb w)⟩
theorem walk_t (h : SqB M.K g.F a vs) (r : Reps M.K g.F ds vs) : WalkD M g (Itt M.K a) ds := by
  have hs : ∀ (g' : Gh) (H : Hp) (s : Sto), Sub g.F g'.F → WOk M g' H s → SqT M.K H a vs := fun g' H s sb w => (sb.sqB h).mono' w
  exact walk_at r (fun i g' H s sb w x hx => ⟨vs, x, hs g' H s sb w, hx⟩) (fun g' H s sb w => ⟨vs, hs g' H s sb w, Nat.le_refl _⟩) fun i g' H s x H' sb w hi y => ⟨y.1, y.2 vs (hs g' H s sb w)⟩
theorem rev_get {α : Type} {xs : List α} {i : Nat} (h : i < xs.length) : xs.reverse[i]? = xs[xs.length - 1 - i]? := by
  rw [List.getElem?_reverse h]
theorem walk_rl (h : g.F a = some (.lst vs)) (r : Reps M.K g.F ds vs) : WalkD M g (Itv M.K a vs.length) ds.reverse := by
  have hs : ∀ (g' : Gh) (H : Hp) (s : Sto), Sub g.F g'.F → WOk M g' H s → SqL M.K H a vs := fun g' H s sb w => SqL.of (w.sub _ _ (sb _ _ h))
  refine walk_at r.rev (fun i g' H s sb w x hx => ?_) (fun g' H s sb w => by rw [List.length_reverse]; exact Nat.le_refl _) fun i g' H s x H' sb w hi y => ?_
  · have hi : i < vs.length := by
      have := (List.getElem?_eq_some_iff.mp hx).1
      simpa using this
    exact ⟨hi, vs, x, hs g' H s sb w, by rw [← rev_get hi]; exact hx⟩
  · rw [List.length_reverse] at hi
    exact ⟨y.1, by rw [rev_get hi]; exact y.2 vs (hs g' H s sb w)⟩
theorem walk_rt (h : SqB M.K g.F a vs) (r : Reps M.K g.F ds vs) : WalkD M g (RT.ItvT M.K a vs.length) ds.reverse := by
  have hs : ∀ (g' : Gh) (H : Hp) (s : Sto), Sub g.F g'.F → WOk M g' H s → SqT M.K H a vs := fun g' H s sb w => (sb.sqB h).mono' w
  refine walk_at r.rev (fun i g' H s sb w x hx => ?_) (fun g' H s sb w => by rw [List.length_reverse]; exact Nat.le_refl _) fun i g' H s x H' sb w hi y => ?_
  · have hi : i < vs.length := by
      have := (List.getElem?_eq_some_iff.mp hx).1
      simpa using this
    exact ⟨hi, vs, x, hs g' H s sb w, by rw [← rev_get hi]; exact hx⟩
  · rw [List.length_reverse] at hi
    exact ⟨y.1, by rw [rev_get hi]; exact y.2 vs (hs g' H s sb w)⟩
/-- told by a function of the turn, nothing made -/
theorem walk_fn {J : L2.It} {n : Nat} (f : Nat → D) (hg : ∀ i H, i < n → J.go i H) (hs : ∀ H, J.stop n H) (hy : ∀ i H x H', i < n → J.yld i H x H' → H' = H ∧ Rep M.K g.F (f i) x) : WalkD M g J ((List.range n).map f) where
  go := fun i g' H s sb w hi => hg i H (by simpa using hi)
  stop := fun g' H s sb w => by simpa using hs H
  yld := fun i g' H s x H' sb w hi y => by
    have hi : i < n := by simpa using hi
    obtain ⟨rfl, r⟩ := hy i H x H' hi y
    exact ⟨g', f i, Le.refl _ _, w, by simp [hi], r.mono sb⟩
theorem walk_rng {lo hi : Int} : WalkD M g (Itr lo (hi - lo).toNat) (rangeD lo hi) :=
  walk_fn (fun i => .int (lo + (i : Nat))) (fun i H h => h) (fun H => Nat.le_refl _) fun i H x H' _ y => ⟨y.1, y.2⟩
theorem walk_rrng {lo hi : Int} : WalkD M g (Itc (lo + (((hi - lo).toNat : Nat) : Int) - 1) (-1) (hi - lo).toNat) (rangeD lo hi).reverse := by
  have e : (rangeD lo hi).reverse = (List.range (hi - lo).toNat).map fun i => .int (lo + (((hi - lo).toNat : Nat) : Int) - 1 + (i : Nat) * (-1)) := by
    apply List.ext_getElem?
    intro i
    unfold rangeD
    by_cases h : i < (hi - lo).toNat
    · rw [rev_get (by simpa using h)]
      simp only [List.length_map, List.length_range]
      rw [List.getElem?_map, List.getElem?_map, List.getElem?_range (by omega), List.getElem?_range h]
      simp only [Option.map_some, Option.some.injEq, D.int.injEq]
      omega
    · rw [List.getElem?_eq_none (by simpa using h), List.getElem?_eq_none (by simpa using h)]
  rw [e]
  exact walk_fn _ (fun i H h => h) (fun H => Nat.le_refl _) fun i H x H' _ y => ⟨y.1, y.2⟩
theorem walk_s (x : List Nat) : WalkD M g (Its (sS x)) (x.map fun c => .str [c]) where
  go := fun i g' H s sb w hi => by
    show i < x.toArray.size
    simpa using hi
  stop := fun g' H s sb w => by
    show x.toArray.size ≤ _
    simp
  yld := fun i g' H s v H' sb w hi y => by
    obtain ⟨rfl, c, h1, rfl⟩ := y
    have h2 : x[i]? = some c := by simpa using h1
    exact ⟨g', .str [c], Le.refl _ _, w, by simp [h2], rfl⟩
theorem enum_get : ∀ (ds : List D) (n i : Nat), (enumD n ds)[i]? = (ds[i]?).map fun d => .tup [.int ((n + i : Nat) : Int), d]
  | [], _, _ => by simp [enumD]
  | d :: ds, n, 0 => by simp [enumD]
  | d :: ds, n, i + 1 => by
    show (enumD (n + 1) ds)[i]? = _
    rw [enum_get ds (n + 1) i]
    simp only [List.getElem?_cons_succ]
    congr 1
    funext d
    rw [Nat.add_right_comm, Nat.add_assoc]
theorem enum_len : ∀ (ds : List D) (n : Nat), (enumD n ds).length = ds.length
  | [], _ => rfl
  | d :: ds, n => by rw [enumD, List.length_cons, List.length_cons, enum_len ds]
theorem walk_pair {J : L2.It} {f : Nat → D} {ps : List D} {n : Nat} {ys : List V} (hr : Reps M.K g.F ds ys) (hn : n = ps.length) (hps : ∀ i d, i < n → ds[i]? = some d → ps[i]? = some (.tup [f i, d])) (hd : n ≤ ds.length)
    (hg : ∀ i g' H s, Sub g.F g'.F → WOk M g' H s → i < n → J.go i H) (hs : ∀ g' H s, Sub g.F g'.F → WOk M g' H s → J.stop n H)
    (hy : ∀ i g' H s v H', Sub g.F g'.F → WOk M g' H s → i < n → J.yld i H v H' → ∃ T x y o, o.dict = none ∧ v = .ref T ∧ H T = none ∧ H' = upd H T (.frz o (.tup [x, y])) ∧ Rep M.K g'.F (f i) x ∧ ys[i]? = some y) : WalkD M g J ps where
  go := fun i g' H s sb w hi => hg i g' H s sb w (by omega)
  stop := fun g' H s sb w => by rw [← hn]; exact hs g' H s sb w
  yld := fun i g' H s v H' sb w hi y => by
    obtain ⟨T, x, z, o, ho, rfl, hT, rfl, h1, h2⟩ := hy i g' H s v H' sb w (by omega) y
    obtain ⟨d, e1, e2⟩ := hr.getV h2
    refine ⟨g'.add T (.frz o (.tup [x, z])), .tup [f i, d], Le.alloc w hT, w.alloc hT, hps i d (by omega) e1, T, [x, z], rfl, sqB_new upd_same ho, ?_⟩
    have s2 : Sub g'.F (g'.add T (.frz o (.tup [x, z]))).F := Sub.upd (w.free hT)
    exact ⟨x, [z], rfl, h1.mono s2, z, [], rfl, (e2.mono sb).mono s2, rfl⟩
theorem walk_el (h : g.F a = some (.lst vs)) (r : Reps M.K g.F ds vs) : WalkD M g (IteL M.K a) (enumD 0 ds) := by
  have hs : ∀ (g' : Gh) (H : Hp) (s : Sto), Sub g.F g'.F → WOk M g' H s → SqL M.K H a vs := fun g' H s sb w => SqL.of (w.sub _ _ (sb _ _ h))
  refine walk_pair (f := fun i => .int (i : Nat)) r (enum_len ds 0).symm (fun i d _ e => by rw [enum_get, e, Nat.zero_add]; rfl) (Nat.le_refl _) (fun i g' H s sb w hi => ?_) (fun g' H s sb w => ⟨vs, hs g' H s sb w, by rw [r.length]; exact Nat.le_refl _⟩) fun i g' H s v H' sb w hi y => ?_
  · obtain ⟨x, hx⟩ := get_some (xs := vs) (i := i) (by rw [r.length]; exact hi)
    exact ⟨vs, x, hs g' H s sb w, hx⟩
  · obtain ⟨T, x, o, ho, e1, e2, e3, e4⟩ := y
    exact ⟨T, _, x, o, ho, e1, e2, e3, rfl, e4 vs (hs g' H s sb w)⟩
theorem walk_et (h : SqB M.K g.F a vs) (r : Reps M.K g.F ds vs) : WalkD M g (IteT M.K a) (enumD 0 ds) := by
  have hs : ∀ (g' : Gh) (H : Hp) (s : Sto), Sub g.F g'.F → WOk M g' H s → SqT M.K H a vs := fun g' H s sb w => (sb.sqB h).mono' w
  refine walk_pair (f := fun i => .int (i : Nat)) r (enum_len ds 0).symm (fun i d _ e => by rw [enum_get, e, Nat.zero_add]; rfl) (Nat.le_refl _) (fun i g' H s sb w hi => ?_) (fun g' H s sb w => ⟨vs, hs g' H s sb w, by rw [r.length]; exact Nat.le_refl _⟩) fun i g' H s v H' sb w hi y => ?_
  · obtain ⟨x, hx⟩ := get_some (xs := vs) (i := i) (by rw [r.length]; exact hi)
    exact ⟨vs, x, hs g' H s sb w, hx⟩
  · obtain ⟨T, x, o, ho, e1, e2, e3, e4⟩ := y
    exact ⟨T, _, x, o, ho, e1, e2, e3, rfl, e4 vs (hs g' H s sb w)⟩
end
section
variable {X : Cx} {M : Mw} {Φ : Nat → Option Fn} {E : XK} {tg e e2 : Expr} {c c2 : C} {p pos : Pos}
theorem walk_x {g : Gh} {a : Addr} {o : Obj} {xs : Xs} {kvs : List (D × D)} (h : g.F a = some (.frz o (DX M.P M.w a xs))) (r : RepT M.K g.F kvs xs) : WalkD M g (Itx M.P M.w a o xs) (kvs.map (·.1)) where
  go := fun i g' H s sb w hi => ⟨w.sub _ _ (sb _ _ h), by rw [r.len]; simpa using hi⟩
  stop := fun g' H s sb w => ⟨w.sub _ _ (sb _ _ h), by rw [r.len, List.length_map]; exact Nat.le_refl _⟩
  yld := fun i g' H s v H' sb w hi y => by
    obtain ⟨rfl, z, e1, rfl⟩ := y
    have e2 : (xs.map fun x => V.ref x.2.1)[i]? = some (V.ref z.2.1) := by rw [List.getElem?_map, e1]; rfl
    obtain ⟨d, e3, e4⟩ := r.list.getV e2
    exact ⟨g', d, Le.refl _ _, w, e3, Rep.mono sb d e4⟩
theorem tI.bind {σ : L2.St} {H : Hp} {R : L2.It → Hp → Prop} {it : It} {f : Env → W → Sto → Res (List D)} (he : ∀ δ s, evIt M.gl Φ it δ s = (evC M.gl Φ c δ s).bind (f δ)) (q : tI M Φ it E σ H R)
    {Q : VK} (k : ∀ v H1 g H0 δ x s, WOk M g H1 s → SOk M g H0 H1 σ δ → RepW M g x v → PostG M E (fun g _ ds J => WalkD M g J ds) (f δ x s) g H1 R → Q v H1) : tC M Φ c E σ H Q := by
  obtain ⟨g, H0, δ, s, w, so, h⟩ := q
  rw [he] at h
  exact tC.bind w so h fun v H1 g1 x s1 l w1 so1 r h1 => k v H1 g1 H0 δ x s1 w1 so1 r h1
/-- a list, a tuple or a text -/
theorem i_e (hP : X.prog = M.P) (hw : X.w = M.w) (hK : X.K = M.K) (ha : PE X e (tC M Φ c E)) : PI X tg e (tI M Φ (.e c) E) := by
  refine ⟨fun pins s σ H R I h => ?_⟩
  refine thn (ha.run pins s σ H (fun v H1 => ∃ g s, WOk M g H1 s ∧ ((∃ a ds vs, v = .ref a ∧ g.F a = some (.lst vs) ∧ Reps M.K g.F ds vs ∧ R (Itl M.K a) H1) ∨ (∃ a ds vs, v = .ref a ∧ SqB M.K g.F a vs ∧ Reps M.K g.F ds vs ∧ R (Itt M.K a) H1) ∨ (∃ x, v = .str (sS x) ∧ R (Its (sS x)) H1) ∨ ∃ a o xs, v = .ref a ∧ g.F a = some (.frz o (DX M.P M.w a xs)) ∧ R (Itx M.P M.w a o xs) H1)) I
    (tI.bind (fun δ s => by rw [evIt] <;> rfl) h fun v H1 g H0 δ x s w so r h1 => ⟨g, s, w, ?_⟩)) fun v s1 ⟨x, H1, I1, r1, g, st, w, q1⟩ => ?_
  · cases x with
    | d d =>
      cases d with
      | lst ds =>
        obtain ⟨a, vs, rfl, h2, h3⟩ := r
        exact .inl ⟨a, ds, vs, rfl, h2, h3, h1 _ g H1 (Le.refl _ _) w (walk_l h2 h3)⟩
      | tup ds =>
        obtain ⟨a, vs, rfl, h2, h3⟩ := r
        exact .inr (.inl ⟨a, ds, vs, rfl, h2, h3, h1 _ g H1 (Le.refl _ _) w (walk_t h2 h3)⟩)
      | str x => exact .inr (.inr (.inl ⟨x, r, h1 _ g H1 (Le.refl _ _) w (walk_s x)⟩))
      | _ => exact False.elim h1
    | dct kvs =>
      obtain ⟨a, o, xs, rfl, h2, h3⟩ := r
      exact .inr (.inr (.inr ⟨a, o, xs, rfl, h2, h1 _ g H1 (Le.refl _ _) w (walk_x h2 h3)⟩))
    | _ => exact False.elim h1
  · rcases q1 with ⟨a, ds, vs, rfl, hq, _, q⟩ | ⟨a, ds, vs, rfl, hq, _, q⟩ | ⟨x, rfl, q⟩ | ⟨a, o, xs, rfl, hq, q⟩
    · cases r1
      rw [← hK] at q
      obtain ⟨its, rv, p, hz⟩ := I1.list (SqL.of (w.sub _ _ hq))
      exact wpAny_pyIter_list p.isList (pi_one (tk := s1.toks) I1 _ (turn_list a _) ⟨_, Heap.get?_push_size _ rfl, rfl, rfl⟩ q)
    · cases r1
      rw [← hK] at q hq
      obtain ⟨its, rv, p, hz⟩ := I1.tuple (hq.mono' w)
      exact wpAny_pyIter_tuple (show s1.heap.IsTuple a its.toArray from p) (pi_one (tk := s1.toks) I1 _ (turn_tuple a _) ⟨_, Heap.get?_push_size _ rfl, rfl, rfl⟩ q)
    · obtain ⟨t, rfl⟩ := r1
      cases ha : (sS x).cps.all (· < 128)
      · exact wpAny_pyIter_wide ha (pi_one (tk := s1.toks) I1 _ (turn_str _ _ t "str_iterator" (.inr rfl)) ⟨_, Heap.get?_push_size _ rfl, rfl, rfl⟩ q)
      · exact wpAny_pyIter_ascii ha (pi_one (tk := s1.toks) I1 _ (turn_str _ _ t "str_ascii_iterator" (.inl rfl)) ⟨_, Heap.get?_push_size _ rfl, rfl, rfl⟩ q)
    · cases r1
      have hd := w.sub _ _ hq
      rw [← hP, ← hw] at q hd
      obtain ⟨hs, hgd, hx, es, ep, hdt, hsz, ent⟩ := frzX I1 hd
      refine iter_keys hs hgd hx hdt (pi_one (tk := s1.toks) I1 _ (turn_dx _ hdt) ⟨_, Heap.get?_push_size _ rfl, rfl, ?_⟩ q)
      rw [hsz] <;> rfl
theorem walk_own {g : Gh} {H : Hp} {a : Addr} {vs : List V} {ds : List D} (h : H a = some (.lst vs)) (hd : a ≠ g.da) (hb : a ≠ g.ba) (r : Reps M.K g.F ds vs) : WalkL M g H (Itl M.K a) ds where
  go := fun i g' H' s l w hi => by
    obtain ⟨x, hx⟩ := get_some (xs := vs) (i := i) (by rw [r.length]; exact hi)
    exact ⟨vs, x, SqL.of (l.keep _ _ h hd hb not_tbl_lst), hx⟩
  stop := fun g' H' s l w => ⟨vs, SqL.of (l.keep _ _ h hd hb not_tbl_lst), by rw [r.length]; exact Nat.le_refl _⟩
  yld := fun i g' H' s v H'' l w hi y => by
    obtain ⟨rfl, y⟩ := y
    obtain ⟨d, e1, e2⟩ := r.getV (y vs (SqL.of (l.keep _ _ h hd hb not_tbl_lst)))
    exact ⟨g', d, Le.refl _ _, w, e1, Rep.mono l.fr d e2⟩
/-- a list of the slot's own, walked in passing -/
theorem i_p {i : Nat} {x : Str} (hK : X.K = M.K) (hN : X.N[i]? = some x) (hv : Vis X.env.scope x) (hd : (x == ("__debug__" : Str)) = false) (hcd : (x == ("__classdict__" : Str)) = false) : PI X tg (.Name x pos) (tIL M Φ (.p i) E) := by
  refine ⟨fun pins s σ H R I ⟨g, H0, δ, st, w, so, h⟩ => ?_⟩
  have hx : ∃ a vs, σ[i]? = some (some (V.ref a)) ∧ H a = some (.lst vs) ∧ R (Itl M.K a) H := by
    unfold evIt at h
    cases e : δ[i]? with
    | none => rw [e] at h; exact False.elim h
    | some sl =>
      rw [e] at h
      cases sl with
      | own ds =>
        obtain ⟨a, vs, h1, h2, h3, h4, h5, h6, h7⟩ := so.own i ds e
        exact ⟨a, vs, h1, h2, h _ g H (Le.refl _ _) w (walk_own h2 h5 h6 h7)⟩
      | w x =>
        cases x with
        | d d =>
          cases d with
          | lst ds =>
            obtain ⟨v, h1, a, vs, rfl, h2, h3⟩ := so.w i _ e
            exact ⟨a, vs, h1, w.sub _ _ h2, h _ g H (Le.refl _ _) w ((walk_l h2 h3).toL H)⟩
          | _ => exact False.elim h
        | _ => exact False.elim h
      | _ => exact False.elim h
  obtain ⟨a, vs, h1, h2, q⟩ := hx
  refine thn ((pe_var hN hv hd hcd).run pins s σ H (fun v H1 => v = .ref a ∧ H1 = H) I ⟨_, h1, rfl, rfl⟩) fun v s1 ⟨y, H1, I1, r1, e1, e2⟩ => ?_
  subst e1
  rw [← e2] at h2 q
  cases r1
  rw [← hK] at q
  obtain ⟨its, rv, p, hz⟩ := I1.list (SqL.of h2)
  exact wpAny_pyIter_list p.isList (pi_one (tk := s1.toks) I1 _ (turn_list a _) ⟨_, Heap.get?_push_size _ rfl, rfl, rfl⟩ q)
theorem tI.toL {it : It} (h : PI X tg e (tI M Φ it E)) : PI X tg e (tIL M Φ it E) :=
  h.imp fun σ H R ⟨g, H0, δ, s, w, so, q⟩ => ⟨g, H0, δ, s, w, so, q.rel fun g H ds J z => z.toL H⟩
theorem rng_bounds {a b : Int} (h : rngOk a b = true) : -(2 ^ 61) ≤ a ∧ a < 2 ^ 61 ∧ -(2 ^ 61) ≤ b ∧ b < 2 ^ 61 := by
  unfold rngOk at h
  simp only [Bool.and_eq_true, Nat.ble_eq] at h
  obtain ⟨⟨h1, h2⟩, h3⟩ := h
  omega
theorem i_rng (hg : Gl X "range") (hm : X.mg "range" = none) (h1 : noStar e = true) (ha : PE X e (tC M Φ c E)) : PI X tg (.Call (.Name "range" p) [e] [] pos) (tI M Φ (.rng c) E) := by
  refine (pi_range1 hg hm (pa_cons ha pa_nil (star_of h1)) (star_one h1)).imp fun σ H R q => ?_
  refine tI.bind (fun δ s => by rw [evIt] <;> rfl) q fun v H1 g H0 δ x s w so r h1 => ?_
  cases x with
  | d d =>
    cases d with
    | int n =>
      simp only at h1
      split at h1
      · rename_i hb
        have hb := rng_bounds hb
        refine ⟨n, by rw [show v = V.int n from r], by omega, by omega, ?_⟩
        have := h1 _ g H1 (Le.refl _ _) w (walk_rng (lo := 0) (hi := n))
        rw [Int.sub_zero] at this
        exact this
      · exact False.elim h1
    | _ => exact False.elim h1
  | _ => exact False.elim h1
theorem i_rng2 (hg : Gl X "range") (hm : X.mg "range" = none) (h1 : noStar e = true) (h2 : noStar e2 = true) (ha : PE X e (tC M Φ c E)) (hb : PE X e2 (tC M Φ c2 E)) : PI X tg (.Call (.Name "range" p) [e, e2] [] pos) (tI M Φ (.rng2 c c2) E) := by
  refine (pi_range2 hg hm (pa_cons ha (pa_cons hb pa_nil (star_of h2)) (star_of h1)) (star_two h1 h2) (star_one h2)).imp fun σ H R q => ?_
  refine tI.bind (fun δ s => by rw [evIt] <;> rfl) q fun v H1 g H0 δ x s w so r h1 => ?_
  refine tC.bind w so h1 fun u H2 g2 y s2 l2 w2 so2 r2 h2 => ?_
  cases x with
  | d d =>
    cases y with
    | d d2 =>
      cases d with
      | int n =>
        cases d2 with
        | int m =>
          simp only at h2
          split at h2
          · rename_i hb
            have hb := rng_bounds hb
            exact ⟨n, m, by rw [show v = V.int n from r, show u = V.int m from r2], by omega, h2 _ g2 H2 (Le.refl _ _) w2 walk_rng⟩
          · exact False.elim h2
        | _ => exact False.elim h2
      | _ => cases d2 <;> exact False.elim h2
    | _ => cases d <;> exact False.elim h2
  | _ => exact False.elim h2
theorem i_rev (hK : X.K = M.K) (hg : Gl X "reversed") (hm : X.mg "reversed" = none) (h1 : noStar e = true) (ha : PE X e (tC M Φ c E)) : PI X tg (.Call (.Name "reversed" p) [e] [] pos) (tI M Φ (.rev c) E) := by
  refine (RT.pi_revA hg hm ha (star_of h1)).imp fun σ H R q => ?_
  refine tI.bind (fun δ s => by rw [evIt] <;> rfl) q fun v H1 g H0 δ x s w so r h1 => ?_
  cases x with
  | d d =>
    cases d with
    | lst ds =>
      obtain ⟨a, vs, rfl, h2, h3⟩ := r
      exact ⟨a, vs, rfl, .inl ⟨by rw [hK]; exact SqL.of (w.sub _ _ h2), by rw [hK]; exact h1 _ g H1 (Le.refl _ _) w (walk_rl h2 h3)⟩⟩
    | tup ds =>
      obtain ⟨a, vs, rfl, h2, h3⟩ := r
      exact ⟨a, vs, rfl, .inr ⟨by rw [hK]; exact h2.mono' w, by rw [hK]; exact h1 _ g H1 (Le.refl _ _) w (walk_rt h2 h3)⟩⟩
    | _ => exact False.elim h1
  | _ => exact False.elim h1
theorem i_enum {elts : List Expr} {kk : Nat} {tpos : Pos} (hK : X.K = M.K) (hg : Gl X "enumerate") (hm : X.mg "enumerate" = none) (h1 : noStar e = true) (ha : PE X e (tC M Φ c E)) : PI X (.Tuple elts kk tpos) (.Call (.Name "enumerate" p) [e] [] pos) (tI M Φ (.enum c) E) := by
  refine (pi_enumA hg hm ha (star_of h1)).imp fun σ H R q => ?_
  refine tI.bind (fun δ s => by rw [evIt] <;> rfl) q fun v H1 g H0 δ x s w so r h1 => ?_
  cases x with
  | d d =>
    cases d with
    | lst ds =>
      obtain ⟨a, vs, rfl, h2, h3⟩ := r
      exact ⟨a, vs, rfl, .inl ⟨by rw [hK]; exact SqL.of (w.sub _ _ h2), by rw [hK]; exact h1 _ g H1 (Le.refl _ _) w (walk_el h2 h3)⟩⟩
    | tup ds =>
      obtain ⟨a, vs, rfl, h2, h3⟩ := r
      exact ⟨a, vs, rfl, .inr ⟨by rw [hK]; exact h2.mono' w, by rw [hK]; exact h1 _ g H1 (Le.refl _ _) w (walk_et h2 h3)⟩⟩
    | _ => exact False.elim h1
  | _ => exact False.elim h1
end
section
variable {X : Cx} {M : Mw} {Φ : Nat → Option Fn} {E : XK} {e : Expr} {c : C} {p p2 pos pos2 : Pos}
/-- list(range(n)) -/
theorem f_lrg (hc : X.calm = true) (hg : Gl X "list") (hm : X.mg "list" = none) (hg2 : Gl X "range") (hm2 : X.mg "range" = none) (h1 : noStar e = true) (ha : PE X e (tC M Φ c E)) : PE X (.Call (.Name "list" p) [.Call (.Name "range" p2) [e] [] pos2] [] pos) (tF M Φ (.lrg c) E) := by
  refine (pe_listRg hc hg hm (prg_1 hg2 hm2 ha (star_of h1)) rfl).imp fun σ H Q ⟨g, H0, δ, s, w, so, h⟩ => ⟨g, H0, δ, s, w, so, ?_⟩
  unfold evC at h
  cases e1 : evC M.gl Φ c δ s with
  | exc c s1 => rw [e1] at h; exact h
  | bad => rw [e1] at h; exact h
  | ok x s1 =>
    rw [e1] at h
    intro v g1 H1 l1 w1 r1
    cases x with
    | d d =>
      cases d with
      | int n =>
        simp only [Res.bind] at h
        by_cases hb : rngOk 0 n = true
        · rw [if_pos hb] at h
          have hb2 := rng_bounds hb
          have hb3 : (n - 0).toNat ≤ 2 ^ 24 := by
            unfold rngOk at hb
            simp only [Bool.and_eq_true, Nat.ble_eq] at hb
            exact hb.2
          refine ⟨n, r1, ⟨by omega, by omega, by omega, by omega, hb3⟩, fun q hq => PostF.pure l1 w1 h ?_ hq⟩
          show Reps M.K g1.F (rangeD 0 n) (rgV 0 n)
          unfold rangeD rgV
          generalize (n - 0).toNat = k
          have go : ∀ (l : List Nat), Reps M.K g1.F (l.map fun i => .int (0 + (i : Nat))) (l.map fun i => V.int (0 + (i : Nat))) := by
            intro l
            induction l with
            | nil => rfl
            | cons i l ih => exact ⟨_, _, rfl, rfl, ih⟩
          exact go _
        · rw [if_neg hb] at h
          exact False.elim h
      | _ => exact False.elim h
    | _ => exact False.elim h
end
/-! ### list comprehensions -/
abbrev noE : XK := fun _ _ _ => False
theorem PostF.bind {α β : Type} {M : Mw} {E : XK} {Rel : Gh → Hp → α → β → Prop} {r : Res α} {f : α → Sto → Res W} {g : Gh} {H : Hp} {Q : VK} (h : PostF M E (r.bind f) g H Q) :
    PostG M E Rel r g H (fun b H1 => ∃ g1 a s1, Le g H g1 H1 ∧ WOk M g1 H1 s1 ∧ Rel g1 H1 a b ∧ PostF M E (f a s1) g H Q) := by
  cases r with
  | ok a s => exact fun b g1 H1 l w q => ⟨g1, a, s, l, w, q, h⟩
  | exc c s => exact h
  | bad => exact h
/-- within a comprehension: what is left, F of it, stands as it is wanted -/
theorem post_in {α β γ : Type} {M : Mw} {Rel : Gh → Hp → α → β → Prop} {r : Res α} {k : α → Sto → Res γ} {P : Res γ → Prop} {g : Gh} {H : Hp} (h : P (noExc (r.bind k))) (hb : ¬ P .bad) :
    PostG M noE Rel r g H (fun b H1 => ∃ g1 a s1, Le g H g1 H1 ∧ WOk M g1 H1 s1 ∧ Rel g1 H1 a b ∧ P (noExc (k a s1))) := by
  cases r with
  | ok a s => exact fun b g1 H1 l w q => ⟨g1, a, s, l, w, q, h⟩
  | exc c s => exact absurd h hb
  | bad => exact absurd h hb
section
variable {X : Cx} {M : Mw} {Φ : Nat → Option Fn} {E : XK}
/-- one turn -/
def lcF (gl : Nat → D) (Φ : Nat → Option Fn) (is : List Nat) (tup : Bool) (cond elt : C) (δ : Env) (d : D) (s : Sto) : Res (Option D) := match setTg tup is d δ with
  | some δ' => (evC gl Φ cond δ' s).bind fun c s => (match truth c with
    | some true => (evC gl Φ elt δ' s).bind fun x s => (match x with | .d y => .ok (some y) s | _ => .bad)
    | some false => .ok none s
    | none => .bad)
  | none => .bad
theorem evC_lc {gl : Nat → D} {is : List Nat} {tup : Bool} {it : It} {cond elt : C} {δ : Env} {s : Sto} : evC gl Φ (.lc is tup it cond elt) δ s = (evIt gl Φ it δ s).bind fun ds s => (noExc (lcGo (lcF gl Φ is tup cond elt δ) ds [] s)).bind fun ys s => pureR (.lst ys) s := by
  rw [evC]; rfl
theorem lc_imp {own : List (Str × Nat)} {tup : Bool} {it : It} {cond ce : C} {σ : L2.St} {H : Hp} {Q : VK} (q : tF M Φ (.lc (own.map (·.2)) tup it cond ce) E σ H Q) : tLc (tIL M Φ it E) (gOf M.K tup (own.map (·.2))) (tT M Φ cond noE) (tC M Φ ce noE) (own.map (·.2)) σ H Q := by
  obtain ⟨g, H0, δ, s, w, so, h⟩ := q
  rw [evC_lc] at h
  refine ⟨g, H0, δ, s, w, so, h.bind.mono fun J H1 ⟨g1, ds, s1, l1, w1, wd, h1⟩ D hD => ?_⟩
  have hDs : H D = none := l1.free_ hD
  have so1 := so.later l1
  have nda : D ≠ g1.da := ne_da w1 hD
  have nba : D ≠ g1.ba := ne_ba w1 hD
  have W : Walk J ds.length (fun H' => ∃ g' s', Le g1 H1 g' H' ∧ WOk M g' H' s') (fun i H' x H'' => J.yld i H' x H'') :=
    ⟨fun i H' hi ⟨g', s', sb, w'⟩ => wd.go i g' H' s' sb w' hi, fun H' ⟨g', s', sb, w'⟩ => wd.stop g' H' s' sb w', fun i H' x H'' _ _ y => y⟩
  refine lc_it W (fun i H' => ∃ g' s' accV acc, Le g1 H1 g' H' ∧ WOk M g' H' s' ∧ H' D = some (.lst accV) ∧ g'.F D = none ∧ Reps M.K g'.F acc accV ∧
      PostF M E ((noExc (lcGo (lcF M.gl Φ (own.map (·.2)) tup cond ce δ) (ds.drop i) acc s')).bind fun ys s => pureR (.lst ys) s) g H Q) ?_ ?_ ?_ ?_
  · exact ⟨g1, s1, [], [], Le.fresh hD, w1.fresh hD, upd_same, w1.free hD, rfl, h1⟩
  · rintro i H' _ ⟨g', s', accV, acc, l, w', _⟩
    exact ⟨g', s', l, w'⟩
  · rintro i x H' H'' hi ⟨g', s', accV, acc, l, w', hDl, hF, ra, hp⟩ y
    obtain ⟨g2, d, l2, w2, e2, r2⟩ := wd.yld i g' H' s' x H'' l w' hi y
    have so2 := (so1.later l).later l2
    have hdrop : ds.drop i = d :: ds.drop (i + 1) := by
      obtain ⟨hi', e3⟩ := List.getElem?_eq_some_iff.mp e2
      rw [List.drop_eq_getElem_cons hi', e3]
    rw [hdrop] at hp
    unfold lcGo at hp
    unfold lcF at hp
    cases e3 : setTg tup (own.map (·.2)) d δ with
    | none => rw [e3] at hp; exact False.elim hp
    | some δ' =>
      rw [e3] at hp
      simp only at hp
      have so3 : SOk M g2 H0 H'' (wipe σ (own.map (·.2))) (wipeE (own.map (·.2)) δ) := so2.wipe _
      refine gOf_ok w2 so3 (by rw [setTg_wipe]; exact e3) r2 fun σ2 so4 hl hj => ⟨?_, ?_⟩
      · rw [wipe_eq (σ := wipe σ (own.map (·.2))) hl hj]
        exact wipe_eq (wipe_length _ _) fun j hj => wipe_out hj
      · have P1 := post_in (M := M) (g := g2) (H := H'') (Rel := fun g _ => RepW M g) (r := evC M.gl Φ cond δ' s') (P := fun r => PostF M E (r.bind fun ys s => pureR (.lst ys) s) g H Q) (k := fun c s => ((match truth c with
          | some true => (evC M.gl Φ ce δ' s).bind fun x s => (match x with | .d y => .ok (some y) s | _ => .bad)
          | some false => .ok none s
          | none => .bad : Res (Option G.D))).bind fun o s => match o with
            | some x => if acc.length < lim then lcGo (lcF M.gl Φ (own.map (·.2)) tup cond ce δ) (ds.drop (i + 1)) (acc ++ [x]) s else .bad
            | none => lcGo (lcF M.gl Φ (own.map (·.2)) tup cond ce δ) (ds.drop (i + 1)) acc s) (by
            cases ec : evC M.gl Φ cond δ' s' with
            | ok c s => rw [ec] at hp; exact hp
            | exc c s => rw [ec] at hp; exact hp
            | bad => rw [ec] at hp; exact hp) (fun z => z)
        refine ⟨g2, H0, δ', s', w2, so4, ?_⟩
        cases ec : evC M.gl Φ cond δ' s' with
        | exc c s => rw [ec] at P1; exact False.elim (P1 g2 H'' (Le.refl _ _) (by rw [ec] at hp; exact absurd hp id))
        | bad => rw [ec] at P1; exact P1
        | ok c s3 =>
          rw [ec] at hp
          show PostG _ _ _ (if (truth c).isSome = true then Res.ok c s3 else .bad) _ _ _
          simp only [Res.bind] at hp
          cases et : truth c with
          | none => rw [et] at hp; exact False.elim hp
          | some b =>
            rw [et] at hp
            intro b' g3 H3 l3 w3 eb
            have eb : truth c = some b' := eb
            rw [et] at eb
            cases eb
            have so5 := so4.later l3
            cases b with
            | false =>
              rw [if_neg (by simp)]
              simp only [Res.bind] at hp
              exact ⟨g3, s3, accV, acc, (l.trans l2).trans l3, w3, (l2.trans l3).keep _ _ hDl (by rw [l.da]; exact nda) (by rw [l.ba]; exact nba) not_tbl_lst, (l2.trans l3).noF hF (by rw [hDl]; simp), (ra.mono l2.fr).mono l3.fr, hp⟩
            | true =>
              rw [if_pos rfl]
              simp only at hp
              refine ⟨g3, H0, δ', s3, w3, so5, ?_⟩
              cases ee : evC M.gl Φ ce δ' s3 with
              | exc c s => rw [ee] at hp; exact False.elim hp
              | bad => rw [ee] at hp; exact False.elim hp
              | ok z s4 =>
                rw [ee] at hp
                intro y' g4 H4 l4 w4 r4
                cases z with
                | d z =>
                  simp only [Res.bind] at hp
                  by_cases hlen : acc.length < lim
                  · rw [if_pos hlen] at hp
                    have l24 := (l2.trans l3).trans l4
                    have hD4 := l24.keep _ _ hDl (by rw [l.da]; exact nda) (by rw [l.ba]; exact nba) not_tbl_lst
                    have hF4 := l24.noF hF (by rw [hDl]; simp)
                    have ra4 := ra.mono l24.fr
                    refine ⟨accV, hD4, by rw [ra.length, ← lim_eq]; exact hlen, g4, s4, accV ++ [y'], acc ++ [z], (l.trans l24).write hD, w4.write hD4 hF4 (by rw [l24.da, l.da]; exact nda), upd_same, hF4, ra4.snoc r4, hp⟩
                  · rw [if_neg hlen] at hp
                    exact False.elim hp
                | _ => exact False.elim hp
  · rintro H' ⟨g', s', accV, acc, l, w', hDl, hF, ra, hp⟩
    rw [List.drop_length] at hp
    exact hp D accV g' H' (l1.trans l) w' hDs hF hDl ra
theorem f_lc {tg iter elt : Expr} {ifs : List Expr} {scope : Scope} {own : List (Str × Nat)} {is : List Nat} {tup : Bool} {it : It} {cond ce : C} {pos : Pos} (hK : X.K = M.K) (hc : X.calm = true) (hN : X.N.Nodup) (his : own.map (·.2) = is)
    (hi : PI X tg iter (tIL M Φ it E)) (ok : BlkOk X.N X.env.scope scope own)
    (hg : ∀ (s : Shared) (H : Hp) (C : Addr) (cl : List (Str × Addr)) (fp : List Addr), PG (X.blk s H scope (compEnvC scope cl C X.env) fp) tg (gOf M.K tup is))
    (ht : ∀ (s : Shared) (H : Hp) (C : Addr) (cl : List (Str × Addr)) (fp : List Addr), PTs (X.blk s H scope (compEnvC scope cl C X.env) fp) ifs (tT M Φ cond noE))
    (he : ∀ (s : Shared) (H : Hp) (C : Addr) (cl : List (Str × Addr)) (fp : List Addr), PE (X.blk s H scope (compEnvC scope cl C X.env) fp) elt (tC M Φ ce noE))
    (hs : ∀ x, foldedSetIterable iter X.env x = pure x) : PE X (.ListComp elt [⟨tg, iter, ifs, 0⟩] scope pos) (tF M Φ (.lc is tup it cond ce) E) := by
  subst his
  exact (pe_lc hc hN hi ok hg ht he hs).imp fun σ H Q q => lc_imp q
/-- name = [..] on one line -/
theorem ps_lcF {i : Nat} {y : Str} {py : Pos} {tg iter elt : Expr} {ifs : List Expr} {scope : Scope} {own : List (Str × Nat)} {is : List Nat} {tup : Bool} {it : It} {cond ce : C} {pos spos : Pos} (hc : X.calm = true) (hN : X.N.Nodup) (his : own.map (·.2) = is)
    (hy : X.N[i]? = some y) (hyl : X.env.scope.names.lookup y = some .local) (hsw : swapsWith (.ListComp elt [⟨tg, iter, ifs, 0⟩] scope pos) (some (.Name y py)) spos.line X.env = pure true)
    (hi : PI X tg iter (tIL M Φ it E)) (ok : BlkOk X.N X.env.scope scope own)
    (hg : ∀ (s : Shared) (H : Hp) (C : Addr) (cl : List (Str × Addr)) (fp : List Addr), PG (X.blk s H scope (compEnvC scope cl C X.env) fp) tg (gOf M.K tup is))
    (ht : ∀ (s : Shared) (H : Hp) (C : Addr) (cl : List (Str × Addr)) (fp : List Addr), PTs (X.blk s H scope (compEnvC scope cl C X.env) fp) ifs (tT M Φ cond noE))
    (he : ∀ (s : Shared) (H : Hp) (C : Addr) (cl : List (Str × Addr)) (fp : List Addr), PE (X.blk s H scope (compEnvC scope cl C X.env) fp) elt (tC M Φ ce noE))
    (hs : ∀ x, foldedSetIterable iter X.env x = pure x) : PS X (.Assign [.Name y py] (.ListComp elt [⟨tg, iter, ifs, 0⟩] scope pos) spos) (tAsg (tF M Φ (.lc is tup it cond ce) E) (gName i)) := by
  subst his
  exact (ps_setLc hc hN hy hyl hsw hi ok hg ht he hs).imp fun D σ H q => lc_imp q
theorem ev_lc {gl : Nat → G.D} {is : List Nat} {tup : Bool} {it : It} {cond elt : C} {δ : Env} {s s' : Sto} {x : W} (h : evC gl Φ (.lc is tup it cond elt) δ s = .ok x s') : ∃ ds, x = .d (.lst ds) := by
  rw [evC_lc] at h
  cases e : evIt gl Φ it δ s with
  | ok ds s1 =>
    rw [e] at h
    simp only [Res.bind] at h
    cases e2 : noExc (lcGo (lcF gl Φ is tup cond elt δ) ds [] s1) with
    | ok ys s2 => rw [e2] at h; cases h; exact ⟨ys, rfl⟩
    | exc c s => rw [e2] at h; cases h
    | bad => rw [e2] at h; cases h
  | exc c s => rw [e] at h; cases h
  | bad => rw [e] at h; cases h
end
end G
end
section
set_option Elab.async false
set_option linter.all false
set_option maxRecDepth 100000
set_option maxHeartbeats 1000000
/-! len(set(x)): x a list or tuple of ints, of texts -/
namespace G
open PySem PySem.Spec PyProof.Rows L2
theorem lawK : LawfulBEq Key where
  eq_of_beq := fun {a b} h => by
    cases a <;> cases b <;> first | (have h' := eq_of_beq (α := Int) h; rw [h']) | (have h' := eq_of_beq (α := Str) h; rw [h']) | cases h
  rfl := fun {a} => by cases a <;> first | exact beq_self_eq_true (α := Int) _ | exact beq_self_eq_true (α := Str) _
def metK (ks : List Key) : List Key := ks.foldl (fun acc d => if acc.any (· == d) then acc else acc ++ [d]) []
theorem metK_snoc (ks : List Key) (k : Key) : metK (ks ++ [k]) = if (metK ks).any (· == k) then metK ks else metK ks ++ [k] := by
  unfold metK
  rw [List.foldl_append]
  rfl
theorem metK_len : ∀ n (ks : List Key), ks.length = n → (metK ks).length ≤ n
  | 0, ks, h => by rw [List.eq_nil_of_length_eq_zero h]; exact Nat.le_refl 0
  | n + 1, ks, h => by
    have hne : ks ≠ [] := fun z => by rw [z] at h; cases h
    have ih := metK_len n ks.dropLast (by rw [List.length_dropLast]; omega)
    rw [← List.dropLast_concat_getLast hne, metK_snoc]
    split
    · omega
    · rw [List.length_append, List.length_singleton]; omega
theorem step_anyK (σ : List Key) (v k : Key) : (if σ.any (· == v) then σ else σ ++ [v]).any (· == k) = (σ.any (· == k) || decide (k = v)) := by
  haveI := lawK
  by_cases h : σ.any (· == v) = true
  · rw [if_pos h]
    by_cases e : k = v
    · subst e; rw [h]; simp
    · simp [e]
  · rw [if_neg h, List.any_append]
    by_cases e : k = v
    · subst e; simp
    · have hb : (v == k) = false := by simpa [beq_iff_eq] using (fun h' : v = k => e h'.symm)
      simp [hb, e]
theorem step_lenK (σ : List Key) (v : Key) : (if σ.any (· == v) then σ else σ ++ [v]).length = if σ.any (· == v) then σ.length else σ.length + 1 := by split <;> simp
theorem key_scan {k : Key} {v : Value} (h : keyIs k v = true) : v.scannable = true := by
  rcases keyIs_shape h with ⟨i, t, rfl, rfl⟩ | ⟨x, t, rfl, rfl⟩ <;> rfl
section
variable {prog : Program} {w : World} {A : Around} {R : Result → Shared → Prop} {I : Addr} {fp wr : List Addr} {Gg : Array GenState → Array GenState → Prop} {n : Nat} {P : Nat → Value → Prop} {St : Nat → Shared → Prop}
theorem loopK (W : WalksS prog w A.in1 I fp wr Gg n P St) (S : Addr) (hSf : S ∉ fp) (xs : List Key) (hsz : xs.length = n) (hn : n + 1 < scanBound)
    (hval : ∀ i v, P i v → ∃ k, xs[i]? = some k ∧ keyIs k v = true) :
    ∀ (k i : Nat) (s : Shared), n - i = k → i ≤ n → St i s →
      s.heap.SetOf (mixKind prog w) S (fun k' => (metK (xs.take i)).any (· == k')) (metK (xs.take i)).length →
      (∀ s', Moved (S :: wr) Gg s s' → s'.heap.SetOf (mixKind prog w) S (fun k' => (metK (xs.take n)).any (· == k')) (metK (xs.take n)).length → R (.ok (.ret .none)) s') →
      codeAny (model prog w) A (.builtin "set.update.loop" ⟨[.ref S, .ref I], []⟩) R s := by
  haveI := lawK
  have hSw : S ∉ wr := fun h => hSf (W.sub _ h)
  have hsub : ∀ b ∈ wr, b ∈ S :: wr := fun b hb => List.mem_cons_of_mem _ hb
  intro k
  induction k with
  | zero =>
    intro i s hk hi hst hS hR
    have hin : i = n := by omega
    subst hin
    refine codeAny_builtin PyProof.Rows.F.entry_set_update_loop ?_
    rw [Around.under_plainId PyProof.Rows.F.plain_set_update_loop _]
    show wpAny _ A.in1 (pyNext (.ref I) >>= _) _ _ s
    refine wpAny_bind (W.done s _ _ hst fun s' hm => ?_)
    show wpAny _ A.in1 (ret Value.none) _ _ s'
    exact wpAny_pure (hR s' (hm.mono hsub) (by
      obtain ⟨o, es, ep, t, ho, rest⟩ := hS
      exact ⟨o, es, ep, t, hm.heap S _ hSw ho, rest⟩))
  | succ k ih =>
    intro i s hk hi hst hS hR
    have hlt : i < n := by omega
    refine codeAny_builtin PyProof.Rows.F.entry_set_update_loop ?_
    rw [Around.under_plainId PyProof.Rows.F.plain_set_update_loop _]
    show wpAny _ A.in1 (pyNext (.ref I) >>= _) _ _ s
    refine wpAny_bind (W.item i s _ _ hlt hst fun v s' hP hst' hm => ?_)
    obtain ⟨ky, hky, hiv⟩ := hval i v hP
    have hS' : s'.heap.SetOf (mixKind prog w) S (fun k' => (metK (xs.take i)).any (· == k')) (metK (xs.take i)).length := by
      obtain ⟨o, es, ep, tb, ho, rest⟩ := hS
      exact ⟨o, es, ep, tb, hm.heap S _ hSw ho, rest⟩
    show wpAny _ A.in1 (holding [v] (setAdd S v) >>= _) _ _ s'
    refine wpAny_bind (wpAny_holding ?_)
    unfold setAdd
    refine wpAny_holding ?_
    have his : (mixKind prog w).is ky v = true := by rw [mixKind_is]; exact hiv
    refine wpAny_bind ((mixKind prog w).pyHash (k := ky) his ?_)
    have hroom : (metK (xs.take i)).length + 1 < scanBound := by
      have := metK_len (xs.take i).length _ rfl
      rw [List.length_take] at this
      omega
    refine wpAny_setAddHashed_of (knd := mixKind prog w) (s := { s' with toks := s'.toks + 1 }) his (key_scan hiv) hS' hroom fun h' hsb hS2 => ?_
    have htake : xs.take (i + 1) = xs.take i ++ [ky] := by rw [List.take_add_one, hky]; rfl
    have hSi : h'.SetOf (mixKind prog w) S (fun k' => (metK (xs.take (i + 1))).any (· == k')) (metK (xs.take (i + 1))).length :=
      SetOf_congr hS2 (fun k' => by rw [htake, metK_snoc, step_anyK]) (by rw [htake, metK_snoc, step_lenK])
    refine wpAny_pure ⟨plainId_quiet PyProof.Rows.F.plain_set_update_loop _, ih (i + 1) _ (by omega) hlt (W.frame _ s' _ _ hst' (Nat.le_succ _) fun b hb o e => ?_) hSi fun s'' hm'' hS'' => ?_⟩
    · rw [hsb.2 b (fun h : b = S => hSf (by rw [← h]; exact hb))]; exact e
    · refine hR s'' (Moved.trans W.gtrans ((hm.mono hsub).then_heap (Nat.le_succ _) fun b o hb e => ?_) hm'') hS''
      rw [hsb.2 b (fun h : b = S => hb (by rw [h]; exact List.mem_cons_self))]; exact e
end
section
variable {prog : Program} {w : World} {A : Around} {E : Value → Shared → Prop} {s : Shared}
set_option maxHeartbeats 3200000 in
theorem set_of_list {l : Addr} {items : Array Value} {xs : List Key} {Q : Value → Shared → Prop}
    (hh : A.handled = none) (hl : s.heap.IsList l items) (hsz : xs.length = items.size) (hn : items.size + 1 < scanBound) (hval : ∀ (i : Nat) (v : Value), items[i]? = some v → ∃ k, xs[i]? = some k ∧ keyIs k v = true)
    (h : ∀ (h' : Heap) (tk : Nat), h'.SetOf (mixKind prog w) s.heap.objs.size (fun k' => (metK (xs.take items.size)).any (· == k')) (metK (xs.take items.size)).length →
      (∀ b o, b < s.heap.objs.size → s.heap.get? b = some o → h'.get? b = some o) → Q (.ref s.heap.objs.size) { s with heap := h', toks := tk }) :
    wpAny (model prog w) A (call (.type "set") [.ref l]) Q E s := by
  haveI := lawK
  obtain ⟨c, tl, hmro⟩ := PySem.F.called_set.mro
  have hmade := PySem.F.called_set.made
  have hsub := PySem.F.called_set.sub
  refine wpAny_call (codeAny_of_tree ?_)
  show wpAny _ _ (callAny (.type "set") _) _ _ _
  refine wpAny_pure ⟨Code.quiet_builtin _ (by decide +kernel), codeAny_builtin PySem.F.entry_type_call ?_⟩
  rw [Around.under_plain (weight_type_call_type "set" [.ref l] []) rfl]
  have h1 := PySem.F.called_set.notType
  have h2 := PySem.F.called_set.canCreate
  have hct := PySem.F.typeCall_set_1 (.ref l)
  repeat (any_goals (first | assumption | wp_step))
  refine codeAny_mono (code_set_new_1 (.ref l) (E := E) (Q₁ := fun obj s₁ => ∃ led : Bool, obj = .ref s.heap.objs.size ∧ s₁ = { s with heap := s.heap.push { cls := .type "set", dict := none, data := .set #[] 0 (.fresh 0 0 led) } }) fun led => ⟨led, rfl, rfl⟩) fun r s₁ hr => ?_
  cases r with
  | error e => exact hr
  | ok fl =>
    cases fl with
    | ret obj =>
      obtain ⟨led, rfl, rfl⟩ := hr
      have hS : (s.heap.push { cls := .type "set", dict := none, data := .set #[] 0 (.fresh 0 0 led) }).get? s.heap.objs.size = some { cls := .type "set", dict := none, data := .set #[] 0 (.fresh 0 0 led) } := Heap.get?_push_size _ rfl
      have hT : Shared.TypeIs { s with heap := s.heap.push { cls := .type "set", dict := none, data := .set #[] 0 (.fresh 0 0 led) } } (.ref s.heap.objs.size) "set" := ⟨_, hS, rfl⟩
      have hli := PySem.F.called_set.init.lookup
      have hbi := PySem.F.called_set.init.bind (.ref s.heap.objs.size)
      repeat (any_goals (first | assumption | wp_step))
      refine codeAny_mono (codeAny_call_builtin (R := wants (fun r s₂ => r = .none ∧ ∃ h' tk, s₂ = { s with heap := h', toks := tk } ∧
          h'.SetOf (mixKind prog w) s.heap.objs.size (fun k' => (metK (xs.take items.size)).any (· == k')) (metK (xs.take items.size)).length ∧
          (∀ b o, b < s.heap.objs.size → s.heap.get? b = some o → h'.get? b = some o)) E) PySem.F.called_set.init.plain PySem.F.entry_set_init (check_set_init_1 hT ?_)) fun r₂ s₂ hr₂ => ?_
      · obtain ⟨ol, hol, hcl, nl, hdl⟩ := hl
        obtain ⟨ocls, odict, odata, oslots⟩ := ol
        simp only at hcl hdl
        subst hcl; subst hdl
        have hol' : (s.heap.push { cls := .type "set", dict := none, data := .set #[] 0 (.fresh 0 0 led) }).get? l = some { cls := .type "list", dict := odict, data := .seq items nl, slots := oslots } := Heap.get?_push_of_some _ hol
        have hsls := PySem.F.sub_list_set
        have hslf := PySem.F.sub_list_frozenset
        have hne : (Value.type "list" == Value.type "dict") = false := by decide
        have hl1 : (s.heap.push { cls := .type "set", dict := none, data := .set #[] 0 (.fresh 0 0 led) }).IsList l items := ⟨_, hol', rfl, nl, rfl⟩
        unfold Builtin.«set.__init__» noKeywords Builtin.Frozenset.updateFrom
        generalize hPI : pyIter = PI
        wp_walk
        subst hPI
        refine wpAny_pyIter_list hl1 ?_
        refine wpAny_bind (wpAny_runValue ?_)
        have hlS : l < s.heap.objs.size := Heap.lt_size hol
        have hh3 : A.in1.in1.in1.handled = none := by simp [hh]
        have hneI : l ≠ (s.heap.push { cls := .type "set", dict := none, data := .set #[] 0 (.fresh 0 0 led) }).objs.size := by
          rw [Heap.size_push]; exact Nat.ne_of_lt (Nat.lt_succ_of_lt hlS)
        have hSf : s.heap.objs.size ∉ [(s.heap.push { cls := .type "set", dict := none, data := .set #[] 0 (.fresh 0 0 led) }).objs.size, l] := by
          rw [Heap.size_push]; simp only [List.mem_cons, List.mem_singleton, List.not_mem_nil, or_false, not_or]
          exact ⟨Nat.ne_of_lt (Nat.lt_succ_self _), Nat.ne_of_gt hlS⟩
        refine loopK ((Walks.list hh3 _ l hneI items).toS) s.heap.objs.size
          hSf xs hsz hn hval (items.size - 0) 0 _ (by omega) (Nat.zero_le _)
          ⟨⟨_, Heap.get?_push_size _ rfl, rfl, rfl⟩, (hl1.push _)⟩ ?hS0 ?hR
        case hS0 =>
          have hget : ((s.heap.push { cls := .type "set", dict := none, data := .set #[] 0 (.fresh 0 0 led) }).push { cls := .type "list_iterator", data := .fields #[.ref l, .int 0 0] }).get? s.heap.objs.size
              = some { cls := .type "set", dict := none, data := .set #[] 0 (.fresh 0 0 led) } := Heap.get?_push_of_some _ hS
          exact PyProof.Rows.SetOf_congr ((PyProof.Rows.setObjOf_fresh (knd := mixKind prog w) led).setOf hget (by unfold scanBound; omega)) (fun _ => rfl) rfl
        case hR =>
          intro s' hm hS'
          obtain ⟨h', g', d', tk', os'⟩ := s'
          have eg : g' = s.gens := hm.gens
          have ed : d' = s.drawn := hm.drawn
          have eo : os' = s.os := hm.os
          subst eg; subst ed; subst eo
          show wpAny _ _ _ _ _ _
          refine wpAny_pure ?_
          show wpAny _ _ (ret Value.none) _ _ _
          refine wpAny_pure ⟨rfl, h', tk', rfl, hS', fun b o hb e => ?_⟩
          have hb1 : b ≠ s.heap.objs.size := Nat.ne_of_lt hb
          have hb2 : b ≠ (s.heap.push { cls := .type "set", dict := none, data := .set #[] 0 (.fresh 0 0 led) }).objs.size := by
            rw [Heap.size_push]; exact Nat.ne_of_lt (Nat.lt_succ_of_lt hb)
          exact hm.heap b o (by simp only [List.mem_cons, List.mem_singleton, List.not_mem_nil, or_false, not_or]; exact ⟨hb1, hb2⟩) (Heap.get?_push_of_some _ (Heap.get?_push_of_some _ e))
      · cases r₂ with
        | error e => exact hr₂
        | ok fl₂ =>
          cases fl₂ with
          | ret r =>
            obtain ⟨rfl, h', tk, rfl, hS', hk'⟩ := hr₂
            repeat (any_goals (first | assumption | wp_step))
            exact h _ _ hS' hk'
          | _ => exact hr₂.elim
    | _ => exact hr.elim
set_option maxHeartbeats 3200000 in
theorem set_of_tuple {l : Addr} {items : Array Value} {xs : List Key} {Q : Value → Shared → Prop}
    (hh : A.handled = none) (hl : s.heap.IsTuple l items) (hsz : xs.length = items.size) (hn : items.size + 1 < scanBound) (hval : ∀ (i : Nat) (v : Value), items[i]? = some v → ∃ k, xs[i]? = some k ∧ keyIs k v = true)
    (h : ∀ (h' : Heap) (tk : Nat), h'.SetOf (mixKind prog w) s.heap.objs.size (fun k' => (metK (xs.take items.size)).any (· == k')) (metK (xs.take items.size)).length →
      (∀ b o, b < s.heap.objs.size → s.heap.get? b = some o → h'.get? b = some o) → Q (.ref s.heap.objs.size) { s with heap := h', toks := tk }) :
    wpAny (model prog w) A (call (.type "set") [.ref l]) Q E s := by
  haveI := lawK
  obtain ⟨c, tl, hmro⟩ := PySem.F.called_set.mro
  have hmade := PySem.F.called_set.made
  have hsub := PySem.F.called_set.sub
  refine wpAny_call (codeAny_of_tree ?_)
  show wpAny _ _ (callAny (.type "set") _) _ _ _
  refine wpAny_pure ⟨Code.quiet_builtin _ (by decide +kernel), codeAny_builtin PySem.F.entry_type_call ?_⟩
  rw [Around.under_plain (weight_type_call_type "set" [.ref l] []) rfl]
  have h1 := PySem.F.called_set.notType
  have h2 := PySem.F.called_set.canCreate
  have hct := PySem.F.typeCall_set_1 (.ref l)
  repeat (any_goals (first | assumption | wp_step))
  refine codeAny_mono (code_set_new_1 (.ref l) (E := E) (Q₁ := fun obj s₁ => ∃ led : Bool, obj = .ref s.heap.objs.size ∧ s₁ = { s with heap := s.heap.push { cls := .type "set", dict := none, data := .set #[] 0 (.fresh 0 0 led) } }) fun led => ⟨led, rfl, rfl⟩) fun r s₁ hr => ?_
  cases r with
  | error e => exact hr
  | ok fl =>
    cases fl with
    | ret obj =>
      obtain ⟨led, rfl, rfl⟩ := hr
      have hS : (s.heap.push { cls := .type "set", dict := none, data := .set #[] 0 (.fresh 0 0 led) }).get? s.heap.objs.size = some { cls := .type "set", dict := none, data := .set #[] 0 (.fresh 0 0 led) } := Heap.get?_push_size _ rfl
      have hT : Shared.TypeIs { s with heap := s.heap.push { cls := .type "set", dict := none, data := .set #[] 0 (.fresh 0 0 led) } } (.ref s.heap.objs.size) "set" := ⟨_, hS, rfl⟩
      have hli := PySem.F.called_set.init.lookup
      have hbi := PySem.F.called_set.init.bind (.ref s.heap.objs.size)
      repeat (any_goals (first | assumption | wp_step))
      refine codeAny_mono (codeAny_call_builtin (R := wants (fun r s₂ => r = .none ∧ ∃ h' tk, s₂ = { s with heap := h', toks := tk } ∧
          h'.SetOf (mixKind prog w) s.heap.objs.size (fun k' => (metK (xs.take items.size)).any (· == k')) (metK (xs.take items.size)).length ∧
          (∀ b o, b < s.heap.objs.size → s.heap.get? b = some o → h'.get? b = some o)) E) PySem.F.called_set.init.plain PySem.F.entry_set_init (check_set_init_1 hT ?_)) fun r₂ s₂ hr₂ => ?_
      · obtain ⟨ol, hol, hcl, nl, hdl⟩ := hl
        obtain ⟨ocls, odict, odata, oslots⟩ := ol
        simp only at hcl hdl
        subst hcl; subst hdl
        have hol' : (s.heap.push { cls := .type "set", dict := none, data := .set #[] 0 (.fresh 0 0 led) }).get? l = some { cls := .type "tuple", dict := odict, data := .seq items nl, slots := oslots } := Heap.get?_push_of_some _ hol
        have hsls := PySem.F.sub_tuple_set
        have hslf := PySem.F.sub_tuple_frozenset
        have hne : (Value.type "tuple" == Value.type "dict") = false := by decide
        have hl1 : (s.heap.push { cls := .type "set", dict := none, data := .set #[] 0 (.fresh 0 0 led) }).IsTuple l items := ⟨_, hol', rfl, nl, rfl⟩
        unfold Builtin.«set.__init__» noKeywords Builtin.Frozenset.updateFrom
        generalize hPI : pyIter = PI
        wp_walk
        subst hPI
        refine wpAny_pyIter_tuple hl1 ?_
        refine wpAny_bind (wpAny_runValue ?_)
        have hlS : l < s.heap.objs.size := Heap.lt_size hol
        have hh3 : A.in1.in1.in1.handled = none := by simp [hh]
        have hneI : l ≠ (s.heap.push { cls := .type "set", dict := none, data := .set #[] 0 (.fresh 0 0 led) }).objs.size := by
          rw [Heap.size_push]; exact Nat.ne_of_lt (Nat.lt_succ_of_lt hlS)
        have hSf : s.heap.objs.size ∉ [(s.heap.push { cls := .type "set", dict := none, data := .set #[] 0 (.fresh 0 0 led) }).objs.size, l] := by
          rw [Heap.size_push]; simp only [List.mem_cons, List.mem_singleton, List.not_mem_nil, or_false, not_or]
          exact ⟨Nat.ne_of_lt (Nat.lt_succ_self _), Nat.ne_of_gt hlS⟩
        refine loopK ((Walks.tuple hh3 _ l hneI items).toS) s.heap.objs.size
          hSf xs hsz hn hval (items.size - 0) 0 _ (by omega) (Nat.zero_le _)
          ⟨⟨_, Heap.get?_push_size _ rfl, rfl, rfl⟩, (hl1.push _)⟩ ?hS0 ?hR
        case hS0 =>
          have hget : ((s.heap.push { cls := .type "set", dict := none, data := .set #[] 0 (.fresh 0 0 led) }).push { cls := .type "tuple_iterator", data := .fields #[.ref l, .int 0 0] }).get? s.heap.objs.size
              = some { cls := .type "set", dict := none, data := .set #[] 0 (.fresh 0 0 led) } := Heap.get?_push_of_some _ hS
          exact PyProof.Rows.SetOf_congr ((PyProof.Rows.setObjOf_fresh (knd := mixKind prog w) led).setOf hget (by unfold scanBound; omega)) (fun _ => rfl) rfl
        case hR =>
          intro s' hm hS'
          obtain ⟨h', g', d', tk', os'⟩ := s'
          have eg : g' = s.gens := hm.gens
          have ed : d' = s.drawn := hm.drawn
          have eo : os' = s.os := hm.os
          subst eg; subst ed; subst eo
          show wpAny _ _ _ _ _ _
          refine wpAny_pure ?_
          show wpAny _ _ (ret Value.none) _ _ _
          refine wpAny_pure ⟨rfl, h', tk', rfl, hS', fun b o hb e => ?_⟩
          have hb1 : b ≠ s.heap.objs.size := Nat.ne_of_lt hb
          have hb2 : b ≠ (s.heap.push { cls := .type "set", dict := none, data := .set #[] 0 (.fresh 0 0 led) }).objs.size := by
            rw [Heap.size_push]; exact Nat.ne_of_lt (Nat.lt_succ_of_lt hb)
          exact hm.heap b o (by simp only [List.mem_cons, List.mem_singleton, List.not_mem_nil, or_false, not_or]; exact ⟨hb1, hb2⟩) (Heap.get?_push_of_some _ (Heap.get?_push_of_some _ e))
      · cases r₂ with
        | error e => exact hr₂
        | ok fl₂ =>
          cases fl₂ with
          | ret r =>
            obtain ⟨rfl, h', tk, rfl, hS', hk'⟩ := hr₂
            repeat (any_goals (first | assumption | wp_step))
            exact h _ _ hS' hk'
          | _ => exact hr₂.elim
    | _ => exact hr.elim
end
end G
end
section
set_option Elab.async false
set_option linter.all false
set_option maxRecDepth 100000
set_option maxHeartbeats 1000000
namespace G
open PySem PySem.Spec PyProof.Rows L2
/-- a plain key of a datum -/
def keyD : G.D → Option Key
  | .int i => some (.inl i)
  | .str x => some (.inr (sS x))
  | _ => none
theorem keyD_eq {d e : G.D} {k l : Key} (h1 : keyD d = some k) (h2 : keyD e = some l) : eqD d e = (k == l) := by
  haveI := lawK
  cases d <;> cases h1 <;> cases e <;> cases h2
  · rename_i i j
    show (i == j) = ((Sum.inl i : Key) == .inl j)
    by_cases h : i = j
    · subst h; simp
    · have : ((Sum.inl i : Key) == .inl j) = false := by simpa using h
      rw [this]; simpa using h
  · rename_i i x
    have : ((Sum.inl i : Key) == .inr (sS x)) = false := by simp
    rw [this]; rfl
  · rename_i x i
    have : ((Sum.inr (sS x) : Key) == .inl i) = false := by simp
    rw [this]; rfl
  · rename_i x y
    show (x == y) = ((Sum.inr (sS x) : Key) == .inr (sS y))
    by_cases h : x = y
    · subst h; simp
    · have h' : sS x ≠ sS y := fun z => h (by
        have : x.toArray = y.toArray := congrArg Str.cps z
        simpa using this)
      have : ((Sum.inr (sS x) : Key) == .inr (sS y)) = false := by simpa using h'
      rw [this]; simpa using h
theorem met_eq : ∀ (ds acc : List G.D) (ks ack : List Key), allM keyD ds = some ks → allM keyD acc = some ack →
    (ds.foldl (fun acc d => if inD d acc then acc else acc ++ [d]) acc).length = (ks.foldl (fun acc d => if acc.any (· == d) then acc else acc ++ [d]) ack).length := by
  have inq : ∀ (acc : List G.D) (ack : List Key) (d : G.D) (k : Key), allM keyD acc = some ack → keyD d = some k → inD d acc = ack.any (· == k) := by
    intro acc
    induction acc with
    | nil => intro ack d k h _; cases h; rfl
    | cons e acc ih =>
      intro ack d k h hk
      unfold allM at h
      cases h1 : keyD e with
      | none => rw [h1] at h; cases h
      | some l =>
        cases h2 : allM keyD acc with
        | none => rw [h1, h2] at h; cases h
        | some r =>
          rw [h1, h2] at h
          cases h
          show (eqD e d || inD d acc) = _
          rw [ih r d k h2 hk, keyD_eq h1 hk]
          rfl
  have snoc : ∀ (acc : List G.D) (ack : List Key) (d : G.D) (k : Key), allM keyD acc = some ack → keyD d = some k → allM keyD (acc ++ [d]) = some (ack ++ [k]) := by
    intro acc
    induction acc with
    | nil => intro ack d k h hk; cases h; simp [allM, hk]
    | cons e acc ih =>
      intro ack d k h hk
      unfold allM at h
      cases h1 : keyD e with
      | none => rw [h1] at h; cases h
      | some l =>
        cases h2 : allM keyD acc with
        | none => rw [h1, h2] at h; cases h
        | some r =>
          rw [h1, h2] at h
          cases h
          show allM keyD (e :: (acc ++ [d])) = _
          unfold allM
          rw [h1, ih r d k h2 hk]
          rfl
  have len : ∀ (acc : List G.D) (ack : List Key), allM keyD acc = some ack → acc.length = ack.length := by
    intro acc
    induction acc with
    | nil => intro ack h; cases h; rfl
    | cons e acc ih =>
      intro ack h
      unfold allM at h
      cases h1 : keyD e with
      | none => rw [h1] at h; cases h
      | some l =>
        cases h2 : allM keyD acc with
        | none => rw [h1, h2] at h; cases h
        | some r =>
          rw [h1, h2] at h
          cases h
          rw [List.length_cons, List.length_cons, ih r h2]
  intro ds
  induction ds with
  | nil => intro acc ks ack h ha; cases h; exact len acc ack ha
  | cons d ds ih =>
    intro acc ks ack h ha
    unfold allM at h
    cases h1 : keyD d with
    | none => rw [h1] at h; cases h
    | some k =>
      cases h2 : allM keyD ds with
      | none => rw [h1, h2] at h; cases h
      | some r =>
        rw [h1, h2] at h
        cases h
        rw [List.foldl_cons, List.foldl_cons, inq acc ack d k ha h1]
        split
        · exact ih acc r ack h2 ha
        · exact ih _ r _ h2 (snoc acc ack d k ha h1)
theorem keys_at {K : PySem.W.Frag} {F : Hp} : ∀ {ds : List G.D} {vs : List V} {its : List Value} {ks : List Key}, Reps K F ds vs → Vals vs its → allM keyD ds = some ks → ks.length = its.length ∧ ∀ (i : Nat) (v : Value), its[i]? = some v → ∃ k, ks[i]? = some k ∧ keyIs k v = true
  | [], _, _, _, h, r, e => by
    rw [show _ = [] from h] at r
    cases r
    cases e
    exact ⟨rfl, fun i v z => by simp at z⟩
  | d :: ds, _, _, _, h, r, e => by
    obtain ⟨v, t, rfl, q, h⟩ := h
    cases r with
    | cons r1 r2 =>
      unfold allM at e
      cases h1 : keyD d with
      | none => rw [h1] at e; cases e
      | some k =>
        cases h2 : allM keyD ds with
        | none => rw [h1, h2] at e; cases e
        | some ks =>
          rw [h1, h2] at e
          cases e
          obtain ⟨q1, q2⟩ := keys_at h r2 h2
          refine ⟨by rw [List.length_cons, List.length_cons, q1], fun i u z => ?_⟩
          cases i with
          | zero =>
            simp only [List.getElem?_cons_zero, Option.some.injEq] at z
            subst z
            refine ⟨k, rfl, ?_⟩
            cases d with
            | int i =>
              cases h1
              rw [show v = V.int i from q] at r1
              obtain ⟨t, rfl⟩ := r1
              exact keyIs_int i t
            | str x =>
              cases h1
              rw [show v = V.str (sS x) from q] at r1
              obtain ⟨t, rfl⟩ := r1
              exact keyIs_str _ t
            | _ => cases h1
          | succ i => exact q2 i u (by simpa using z)
theorem flat_keys : ∀ {ds : List G.D}, (ds.all flat || ds.all flatS) = true → ∃ ks, allM keyD ds = some ks := by
  intro ds h
  have go : ∀ (ds : List G.D), (∀ d ∈ ds, ∃ k, keyD d = some k) → ∃ ks, allM keyD ds = some ks := by
    intro ds
    induction ds with
    | nil => exact fun _ => ⟨[], rfl⟩
    | cons d ds ih =>
      intro h
      obtain ⟨k, h1⟩ := h d (List.mem_cons_self ..)
      obtain ⟨ks, h2⟩ := ih fun e he => h e (List.mem_cons_of_mem _ he)
      exact ⟨k :: ks, by unfold allM; rw [h1, h2]⟩
  rw [Bool.or_eq_true, List.all_eq_true, List.all_eq_true] at h
  refine go ds fun d hd => ?_
  rcases h with h | h
  · have := h d hd
    cases d <;> first | exact ⟨_, rfl⟩ | cases this
  · have := h d hd
    cases d <;> first | exact ⟨_, rfl⟩ | cases this
section
variable {X : Cx} {M : Mw} {Φ : Nat → Option Fn} {E : XK} {a : Expr} {c : C} {p p2 q pos : Pos}
theorem s_lenset (hK : X.K = M.K) (hc : X.calm = true) (hg : Gl X "len") (hm : X.mg "len" = none) (hg2 : Gl X "set") (hm2 : X.mg "set" = none) (h1 : noStar a = true) (ha : PE X a (tP M Φ c E)) :
    PE X (.Call (.Name "len" p) [.Call (.Name "set" p2) [a] [] q] [] pos) (tC M Φ (.b1 .lenset c) E) := by
  refine ⟨fun pins s σ H Q I h => ?_⟩
  refine Call_ (ld_blt I hg hm PySem.boot_len ?_)
  refine PyProof.Rows.callWith_builtin1 (PyProof.Rows.args_cons ?_ rfl) rfl rfl
  refine Call_ (ld_blt I hg2 hm2 PyProof.Rows.boot_set ?_)
  refine PyProof.Rows.callWith_type1 (PyProof.Rows.args_cons (thn (ha.run pins s σ H (fun v H1 => ∃ g y st, WOk M g H1 st ∧ RepP M g H1 y v ∧ Post M E (b1R .lenset y st) g H1 Q) I ?_) fun v s1 ⟨x, H1, I1, r1, g, y, st, w, r, h⟩ => PyProof.Rows.args_nil ?_) (star_of h1)) (star_of h1) rfl
  · obtain ⟨g, H0, δ, s, w, so, h⟩ := h
    unfold evC at h
    exact tP.bind w so h fun v H1 g1 y s1 l w so r h1 => ⟨g1, y, s1, w, r, h1⟩
  have fin : ∀ (ds : List G.D) (ks : List Key), allM keyD ds = some ks → ds.length ≤ 1000 → Post M E (pureR (.int (unlike ds)) st) g H1 Q → ∀ (h' : Heap) (tk : Nat), h'.SetOf (mixKind X.prog X.w) s1.heap.objs.size (fun k' => (metK ks).any (· == k')) (metK ks).length →
      (∀ b o, b < s1.heap.objs.size → s1.heap.get? b = some o → h'.get? b = some o) →
      wpAny (model X.prog X.w) X.A (spliced (backTo pos (starEach [] X.env))) (fun vs s₂ => wpAny (model X.prog X.w) X.A (call (.builtin "len") (Value.ref s1.heap.objs.size :: vs)) (EP X pins σ Q) X.xe s₂) X.xe { s1 with heap := h', toks := tk } := fun ds ks hks hle hp h' tk hS hk => by
    refine PyProof.Rows.args_nil ?_
    have hlen : (unlike ds : Nat) = (metK ks).length := met_eq ds [] ks [] hks rfl
    have hb : (metK ks).length ≤ ks.length := metK_len _ ks rfl
    have hkl : ks.length = ds.length := by
      have : ∀ (ds : List G.D) (ks : List Key), allM keyD ds = some ks → ks.length = ds.length := by
        intro ds
        induction ds with
        | nil => intro ks h; cases h; rfl
        | cons d ds ih =>
          intro ks h
          unfold allM at h
          cases h1 : keyD d with
          | none => rw [h1] at h; cases h
          | some k =>
            cases h2 : allM keyD ds with
            | none => rw [h1, h2] at h; cases h
            | some r => rw [h1, h2] at h; cases h; rw [List.length_cons, List.length_cons, ih r h2]
      exact this ds ks hks
    obtain ⟨o, es, ep, t, ho, hex, hd, _, _, _, hf, hn⟩ := hS
    have I2 : Inv X pins σ H1 { s1 with heap := h', toks := tk } := I1.kept fun b o e => hk b o (Heap.lt_size e) e
    refine call_len_set ho hex hd hf (by rw [hn]; omega) ⟨.int ((metK ks).length : Nat), H1, I2.tok _, ⟨_, by rw [hn]⟩, ?_⟩
    rw [← hlen]
    exact Post.pure w hp rfl
  cases y with
  | d y =>
    cases y with
    | lst ds =>
      simp only [b1R] at h
      split at h
      · rename_i hd
        rw [Bool.and_eq_true, decide_eq_true_eq] at hd
        obtain ⟨ks, hks⟩ := flat_keys hd.1
        obtain ⟨l, vs, rfl, h2, h3⟩ := r.lst w
        cases r1
        obtain ⟨its, rv, pl, hz⟩ := I1.list (SqL.of (K := X.K) h2)
        obtain ⟨k1, k2⟩ := keys_at h3 rv hks
        have hl := rv.length
        have hr := h3.length
        refine set_of_list (I1.ok.hd hc) pl.isList (xs := ks) (by simpa using k1) (by simp only [List.size_toArray]; unfold scanBound; omega) (fun i v hv => k2 i v (by simpa using hv)) fun h' tk hS hk => ?_
        rw [show ks.take its.toArray.size = ks from List.take_of_length_le (by simp only [List.size_toArray]; omega)] at hS
        exact fin ds ks hks hd.2 h h' tk hS hk
      · exact False.elim h
    | tup ds =>
      simp only [b1R] at h
      split at h
      · rename_i hd
        rw [Bool.and_eq_true, decide_eq_true_eq] at hd
        obtain ⟨ks, hks⟩ := flat_keys hd.1
        obtain ⟨l, vs, rfl, h2, h3⟩ := r
        cases r1
        obtain ⟨its, rv, pl, hz⟩ := I1.tuple (by rw [hK]; exact h2.mono' w)
        obtain ⟨k1, k2⟩ := keys_at h3 rv hks
        have hl := rv.length
        have hr := h3.length
        refine set_of_tuple (I1.ok.hd hc) pl (xs := ks) (by simpa using k1) (by simp only [List.size_toArray]; unfold scanBound; omega) (fun i v hv => k2 i v (by simpa using hv)) fun h' tk hS hk => ?_
        rw [show ks.take its.toArray.size = ks from List.take_of_length_le (by simp only [List.size_toArray]; omega)] at hS
        exact fin ds ks hks hd.2 h h' tk hS hk
      · exact False.elim h
    | _ => exact False.elim h
  | _ => exact False.elim h
end
end G
end
section
set_option Elab.async false
set_option linter.all false
set_option maxRecDepth 100000
set_option maxHeartbeats 1000000
/-! list(reversed(x)): x a list or a tuple -/
namespace RT
open PySem PySem.Spec PyProof.Rows
theorem nolen_rt : typeLookup (.type "reversed") "__len__" = pure none := by rw [typeLookup_type, builtinLookup_eq_fast]; kernel_rfl
theorem hint_rt : typeLookup (.type "reversed") "__length_hint__" = pure (some (.builtin "reversed.__length_hint__")) := by rw [typeLookup_type, builtinLookup_eq_fast]; kernel_rfl
theorem slot_rt_hint : Slot "reversed" "__length_hint__" "reversed.__length_hint__" :=
  .of (owner := "reversed") (n := "__length_hint__") (by rw [typeLookup_type, builtinLookup_eq_fast]; kernel_rfl) (by decide +kernel) (by decide +kernel) (by decide +kernel)
    (by first | exact .inl (by decide +kernel) | exact .inr (by decide +kernel)) (by rw [isSubtype_type]; kernel_rfl)
theorem entry_rt_hint : entryFor table "reversed.__length_hint__" = some Builtin.«reversed.__length_hint__» := entryFor_of_tree (by kernel_rfl)
theorem args_rt_hint (a : Value) : argsOk "reversed.__length_hint__" ⟨[a], []⟩ := by
  unfold argsOk; rw [signature?_of (id := "reversed.__length_hint__") (n := ['_', '_', 't', 'n', 'i', 'h', '_', 'h', 't', 'g', 'n', 'e', 'l', '_', '_']) (o := ['d', 'e', 's', 'r', 'e', 'v', 'e', 'r']) (by kernel_rfl) owner_rt]; kernel_rfl
section
variable {prog : Program} {w : World} {A : Around} {E : Value → Shared → Prop} {s : Shared}
theorem walks_rt (hh : A.handled = none) (I t : Addr) (hne : t ≠ I) (items : Array Value) (hsz : items.size ≤ sizeLine) :
    Walks prog w A I [I, t] [I] items.size (fun i v => items[items.size - 1 - i]? = some v) (fun i h => i ≤ items.size ∧ IsRt h I t ((items.size : Int) - 1 - (i : Int)) ∧ IsTup h t items) where
  sub := fun b hb => by simp at hb; simp [hb]
  frame := fun _ _ _ x hk => ⟨x.1, x.2.1.at fun o e => hk I (by simp) o e, let ⟨o, ho, r⟩ := x.2.2; ⟨o, hk t (by simp) o ho, r⟩⟩
  item := fun i s Q E hi x hQ => by
    have e : (items.size : Int) - 1 - (i : Int) = ((items.size - 1 - i : Nat) : Int) := by omega
    have hit := x.2.1
    rw [e] at hit
    have hx : items[items.size - 1 - i]? = some (items[items.size - 1 - i]'(by omega)) := Array.getElem?_eq_getElem (by omega)
    refine next_rt_item hit x.2.2 hx hsz fun h' hit' hs' => ?_
    have e2 : ((items.size - 1 - i : Nat) : Int) - 1 = (items.size : Int) - 1 - ((i + 1 : Nat) : Int) := by omega
    rw [e2] at hit'
    exact hQ _ h' (s.toks + 1) hx ⟨hi, hit', let ⟨o, ho, r⟩ := x.2.2; ⟨o, (hs'.2 t hne).trans ho, r⟩⟩ fun b o hb eo => hs'.extBut b o (fun h => hb (by simp [h])) eo
  done := fun s Q E x hQ => by
    have e : (items.size : Int) - 1 - (items.size : Int) = -1 := by omega
    have hit := x.2.1
    rw [e] at hit
    exact next_rt_end hh hit fun h' he => hQ h' s.toks fun b o hb eo => he b o (fun h => hb (by simp [h])) eo
  self := fun _ _ _ _ x hQ => iter_rt x.2.1 hQ
/-- list.__init__ of a fresh list over a walk whose hint is known -/
theorem list_init_walk {R : Result → Shared → Prop} {T : String} {I t : Addr} {n : Nat} {P : Nat → Value → Prop} {St : Nat → Heap → Prop}
    (W : Walks prog w A.in1 I [I, t] [I] n P St) (hT : ∀ i (s : Shared), St i s.heap → s.TypeIs (.ref I) T)
    (hint : ∀ (s : Shared) (E : Value → Shared → Prop) (Q : Bool → Shared → Prop), St 0 s.heap → (∀ b tk, Q b { s with toks := tk }) → wpAny (model prog w) A.in1 (Builtin.List.listLengthHint (.ref I)) Q E s)
    (hn1 : (Value.type T == Value.type "list") = false) (hn2 : (Value.type T == Value.type "tuple") = false)
    (S : Addr) (hst : St 0 s.heap) (hSI : S ≠ I) (hSt : S ≠ t) (hS : s.heap.get? S = some { cls := .type "list", data := .seq #[] })
    (hR : ∀ h' tk acc' c', (∀ b o, b ≠ S → b ≠ I → s.heap.get? b = some o → h'.get? b = some o) → h'.get? S = some { cls := .type "list", dict := none, data := .seq acc' c', slots := #[] } → ItemsOf P acc' n → R (.ok (.ret .none)) { s with heap := h', toks := tk })
    (hn : n ≤ sizeLine) :
    wpAny (model prog w) A.in1 (Builtin.«list.__init__» ⟨[.ref S, .ref I], []⟩)
      (fun fin s' => match fin with | .done f => R (.ok f) s' | .again c' => c'.quiet = true ∧ codeAny (model prog w) A c' R s') (fun e s' => R (.error e) s') s := by
  have hSf : S ∉ [I, t] := by simp only [List.mem_cons, List.not_mem_nil, or_false, not_or]; exact ⟨hSI, hSt⟩
  show wpAny _ A.in1 (do let old ← Builtin.List.listItems (.ref S); Builtin.List.listUpdate (.ref S) (fun _ => #[]); letGo old.toList.reverse; Builtin.List.listExtendWith (.ref S) (.ref I) .none) _ _ s
  refine wpAny_bind ?_
  unfold Builtin.List.listItems
  refine wpAny_bind (wpAny_seqItems hS rfl (wpAny_pure ?_))
  show wpAny _ A.in1 (updateSeq S (fun _ => #[]) >>= fun _ => letGo (#[] : Array Value).toList.reverse >>= fun _ => Builtin.List.listExtendWith (.ref S) (.ref I) .none) _ _ s
  refine wpAny_bind (wpAny_updateSeq hS rfl ?_)
  have hS₂ := Heap.get?_update_self (Obj.mapSeq (fun _ => (#[] : Array Value))) hS rfl
  have oth : ∀ b o, b ≠ S → s.heap.get? b = some o → (s.heap.update S (Obj.mapSeq (fun _ => (#[] : Array Value)))).get? b = some o :=
    fun b o hb e => (Heap.get?_update_other _ _ (Ne.symm hb)).trans e
  refine wpAny_bind (wpAny_letGo ?_)
  have hst2 : St 0 (s.heap.update S (Obj.mapSeq (fun _ => (#[] : Array Value)))) := W.frame 0 _ _ hst fun b hb o e => oth b o (fun h => hSf (h ▸ hb)) e
  generalize hh2 : s.heap.update S (Obj.mapSeq (fun _ => (#[] : Array Value))) = h2 at hS₂ oth hst2
  unfold Builtin.List.listExtendWith
  refine wpAny_bind (wpAny_typeOf (hT 0 { s with heap := h2 } hst2) ?_)
  have h1 : Builtin.List.listSameRef (.ref S) (.ref I) = false := by simp [Builtin.List.listSameRef, hSI]
  simp only [h1, hn1, hn2, Bool.or_false, Bool.false_eq_true, if_false]
  refine wpAny_bind (W.self 0 { s with heap := h2 } _ _ hst2 ?_)
  refine wpAny_bind (wpAny_holding ?_)
  refine hint { s with heap := h2 } _ _ hst2 fun b tk => ?_
  have fin : ∀ (h3 : Heap) (tk : Nat) (c : Nat), (∀ b o, b ≠ S → h2.get? b = some o → h3.get? b = some o) → h3.get? S = some { cls := .type "list", data := .seq #[] c } →
      codeAny (model prog w) A (.builtin "list.extend.loop" ⟨[.ref S, .ref I, .none], []⟩) R { s with heap := h3, toks := tk } := fun h3 tk c hk hS3 => by
    refine codeAny_extend_loopS W.toS hn _ hSf _ n 0 _ _ _ rfl (Nat.zero_le _) (W.frame 0 _ _ hst2 fun b hb o e => hk b o (fun h => hSf (h ▸ hb)) e) hS3 (ItemsOf.nil P) fun s' acc' c' hm hS' hacc => ?_
    rw [Moved.eq_with hm]
    refine hR s'.heap s'.toks acc' c' (fun b o hb hbI e => hm.heap b o (fun hmem => ?_) (hk b o hb (oth b o hb e))) hS' hacc
    rcases List.mem_cons.mp hmem with e' | hmem
    · exact hb e'
    · exact hbI (List.mem_singleton.mp hmem)
  split
  · show wpAny _ A.in1 (rule "list.extend.makes-room" >>= fun _ => Builtin.List.listTouch (.ref S) >>= fun _ =>
      again (.builtin "list.extend.loop" ⟨[.ref S, .ref I, .none], []⟩)) _ _ _
    refine wpAny_bind (wpAny_rule ?_)
    refine wpAny_bind ?_
    show wpAny _ A.in1 (updateSeq S (·.push .none) >>= fun _ => updateSeq S (·.pop)) _ _ _
    refine wpAny_bind (wpAny_updateSeq hS₂ rfl ?_)
    have hS₃ := Heap.get?_update_self (Obj.mapSeq (·.push Value.none)) hS₂ rfl
    refine wpAny_updateSeq (hz := by seq_fits) hS₃ rfl ?_
    have hS₄ := Heap.get?_update_self (Obj.mapSeq (·.pop)) hS₃ rfl
    exact wpAny_pure ⟨plainId_quiet F.plain_extend_loop _, fin _ _ _ (fun b o hb e => (Heap.get?_update_other _ _ (Ne.symm hb)).trans ((Heap.get?_update_other _ _ (Ne.symm hb)).trans e)) hS₄⟩
  · exact wpAny_pure ⟨plainId_quiet F.plain_extend_loop _, fin h2 tk _ (fun _ _ _ e => e) hS₂⟩
/-- the hint of a tuple's reversed iterator -/
theorem hint_tup {it t : Addr} {items : Array Value} {Q : Bool → Shared → Prop} (hit : IsRt s.heap it t ((items.size : Int) - 1)) (ht : IsTup s.heap t items) (hsz : items.size ≤ sizeLine)
    (h : ∀ b tk, Q b { s with toks := tk }) : wpAny (model prog w) A (Builtin.List.listLengthHint (.ref it)) Q E s := by
  obtain ⟨o, ho, hc, hd⟩ := id hit
  have hn := L2.line63
  have hT : s.TypeIs (.ref it) "reversed" := hit.typeIs
  unfold Builtin.List.listLengthHint
  refine wpAny_bind (wpAny_specialOf hT nolen_rt ?_)
  show wpAny _ A (specialOf (Value.ref it) (Str.ofString "__length_hint__") >>= _) _ _ _
  refine wpAny_bind (wpAny_specialOf hT hint_rt ?_)
  generalize hid : ("reversed.__length_hint__" : String) = id0
  wp_delta
  rw [show splitId id0 = some ("reversed", "__length_hint__") from by subst hid; decide +kernel]
  subst hid
  refine wpAny_bind (wpAny_isInstance (b := true) hT (by rw [isSubtype_type]; kernel_rfl) ?_)
  rw [if_neg (by decide +kernel)]
  refine wpAny_bind (wpAny_rule ?_)
  refine wpAny_bind (wpAny_of_eq (slot_rt_hint.bind _) ?_)
  try dsimp only
  refine wpAny_bind (wpAny_attempt (wpAny_call_entry slot_rt_hint hT entry_rt_hint ?_ (args_rt_hint _)))
  unfold Builtin.«reversed.__length_hint__»
  refine wpAny_bind (wpAny_of_eq (a := Value.ref it) rfl ?_)
  try dsimp only
  refine wpAny_bind (wpAny_field ho hd (x := .ref t) rfl ?_)
  try dsimp only
  rw [if_neg (show ¬((Value.ref t == Value.none) = true) from Bool.false_ne_true)]
  refine wpAny_bind (PyProof.Rows.len_tuple ht (by omega) ?_)
  refine wpAny_bind (wpAny_of_eq (a := some ((items.size : Nat) : Int)) rfl ?_)
  try dsimp only
  refine wpAny_bind (wpAny_field (s := { s with toks := s.toks + 1 + 1 }) ho hd (x := rawInt ((items.size : Int) - 1)) rfl ?_)
  show wpAny _ _ (if (items.size : Int) < ((items.size : Int) - 1) + 1 then _ else retInt _) _ _ _
  rw [if_neg (by omega)]
  show wpAny _ _ (mkInt _ >>= fun v => ret v) _ _ _
  refine wpAny_bind (wpAny_mkInt ?_)
  refine wpAny_pure ⟨_, rfl, ?_⟩
  refine wpAny_bind (wpAny_of_eq (a := some ((items.size : Int) - 1 + 1)) rfl ?_)
  try dsimp only
  have f1 : Builtin.List.listFitsIndex ((items.size : Int) - 1 + 1) = true := by
    unfold Builtin.List.listFitsIndex
    simp
    omega
  have f2 : Builtin.List.listTooLong ((items.size : Int) - 1 + 1).toNat = false := by
    unfold Builtin.List.listTooLong
    simp
    omega
  rw [f1, f2]
  rw [if_neg (by decide), if_neg (by omega), if_neg (by decide)]
  exact wpAny_pure (h _ _)
theorem hint_list {it l : Addr} {i : Int} {Q : Bool → Shared → Prop} (hit : s.heap.IsRevIter it l i) (h : ∀ b tk, Q b { s with toks := tk }) : wpAny (model prog w) A (Builtin.List.listLengthHint (.ref it)) Q E s := by
  have hT : s.TypeIs (.ref it) "list_reverseiterator" := hit.typeIs
  unfold Builtin.List.listLengthHint
  refine wpAny_bind (wpAny_specialOf hT nolen_lri ?_)
  show wpAny _ A (specialOf (Value.ref it) (Str.ofString "__length_hint__") >>= _) _ _ _
  refine wpAny_bind (wpAny_specialOf hT hint_lri ?_)
  generalize hid : ("list_reverseiterator.__length_hint__" : String) = id0
  wp_delta
  rw [show splitId id0 = some ("list_reverseiterator", "__length_hint__") from by subst hid; decide +kernel]
  subst hid
  refine wpAny_bind (wpAny_isInstance (b := true) hT (by rw [isSubtype_type]; kernel_rfl) ?_)
  exact wpAny_pure (h false s.toks)
/-- list(an iterator) -/
theorem call_list_walk {T : String} {I t : Addr} {n : Nat} {P : Nat → Value → Prop} {St : Nat → Heap → Prop} {Q : Value → Shared → Prop}
    (W : Walks prog w A.in1.in1 I [I, t] [I] n P St) (hT : ∀ i (s : Shared), St i s.heap → s.TypeIs (.ref I) T)
    (hint : ∀ (s : Shared) (E : Value → Shared → Prop) (Q : Bool → Shared → Prop), St 0 s.heap → (∀ b tk, Q b { s with toks := tk }) → wpAny (model prog w) A.in1.in1 (Builtin.List.listLengthHint (.ref I)) Q E s)
    (hn1 : (Value.type T == Value.type "list") = false) (hn2 : (Value.type T == Value.type "tuple") = false) (hst : St 0 s.heap) (hI : I < s.heap.objs.size) (ht : t < s.heap.objs.size) (hn : n ≤ sizeLine)
    (hQ : ∀ h' tk acc' c', (∀ b o, b ≠ I → s.heap.get? b = some o → h'.get? b = some o) → h'.get? s.heap.objs.size = some { cls := .type "list", dict := none, data := .seq acc' c', slots := #[] } → ItemsOf P acc' n → Q (.ref s.heap.objs.size) { s with heap := h', toks := tk }) :
    wpAny (model prog w) A (call (.type "list") [.ref I]) Q E s := by
  refine callType_codes (Q₁ := fun obj s₁ => obj = .ref s.heap.objs.size ∧ s₁ = { s with heap := s.heap.push { cls := .type "list", data := .seq #[] } }) F.called_list (F.typeCall_list_1 _) F.entry_list_init
    (code_list_new _ ⟨rfl, rfl⟩) fun obj s₁ h₁ => ?_
  obtain ⟨rfl, rfl⟩ := h₁
  have hS : (s.heap.push { cls := .type "list", data := .seq #[] }).get? s.heap.objs.size = some { cls := .type "list", data := .seq #[] } := Heap.get?_push_size _ rfl
  refine ⟨⟨_, hS, rfl⟩, F.args_list_init_2 _ _, list_init_walk (A := A.in1) W hT hint hn1 hn2 _ (W.frame 0 _ _ hst fun b _ o e => Heap.get?_push_of_some _ e) (Nat.ne_of_gt hI) (Nat.ne_of_gt ht) hS (fun h' tk acc' c' hk hS' hacc => ?_) hn⟩
  exact ⟨rfl, hQ h' tk acc' c' (fun b o hb e => hk b o (Nat.ne_of_lt (Heap.lt_size e)) hb (Heap.get?_push_of_some _ e)) hS' hacc⟩
end
section
open L2
/-- list(reversed(x)), x a list or a tuple: a new list -/
def tLstRev (K : PySem.W.Frag) (te : TE) : TE := fun σ H Q => te σ H fun v H1 => ∃ (a : Addr) (xs : List V), v = .ref a ∧ (SqL K H1 a xs ∨ SqT K H1 a xs) ∧ ∀ q, H1 q = none → Q (.ref q) (upd H1 q (.lst xs.reverse))
variable {X : Cx}
theorem pe_listRev {e : Expr} {te : TE} {p p2 pos pos2 : Pos} (hc : X.calm = true) (hg : Gl X "list") (hm : X.mg "list" = none) (hg2 : Gl X "reversed") (hm2 : X.mg "reversed" = none) (he : PE X e te)
    (hs : starEach [e] X.env = (false, eval e X.env) :: starEach [] X.env := by rfl)
    (hs2 : starEach [.Call (.Name "reversed" p2) [e] [] pos2] X.env = (false, eval (.Call (.Name "reversed" p2) [e] [] pos2) X.env) :: starEach [] X.env := by rfl) :
    PE X (.Call (.Name "list" p) [.Call (.Name "reversed" p2) [e] [] pos2] [] pos) (tLstRev X.K te) := by
  refine ⟨fun pins s σ H Q I h => ?_⟩
  refine Call_ (ld_blt I hg hm boot_list (PyProof.Rows.callWith_type1 (args_cons (Call_ (ld_blt I hg2 hm2 PyProof.Rows.boot_reversed (PyProof.Rows.callWith_type1 (args_cons (thn (he.run pins s σ H _ I h) fun u s1 ⟨v, H1, I1, r1, q1⟩ => args_nil ?_) hs) hs rfl))) hs2) hs2 rfl))
  obtain ⟨a, xs, ev, hq, q⟩ := q1
  subst ev
  obtain rfl : u = Value.ref a := r1
  rcases hq with hq | hq
  · obtain ⟨its, rv, p', hz⟩ := I1.list hq
    refine call_reversed_list p'.isList (args_nil ?_)
    have k0 : ∀ b o, s1.heap.get? b = some o → (s1.heap.push (revObj a ((its.toArray.size : Int) - 1))).get? b = some o := fun b o e => Heap.get?_push_of_some _ e
    have I2 : Inv X pins σ H1 { s1 with heap := s1.heap.push (revObj a ((its.toArray.size : Int) - 1)) } := I1.kept (t' := s1.toks) k0
    obtain ⟨f0, f1, f2, f3, f4, f5⟩ := I1.fpOk (H' := H1) (b := s1.heap.objs.size) (Nat.le_refl _) (I1.hok.fresh (Nat.le_refl _))
    have hl := p'.isList
    obtain ⟨ol, hol, _⟩ := id hl
    have hlt := Heap.lt_size hol
    have hne : a ≠ s1.heap.objs.size := Nat.ne_of_lt hlt
    have hn : its.toArray.size ≤ sizeLine := by rw [List.size_toArray, ← rv.length]; exact hz
    have hps : s1.heap.objs.size < (s1.heap.push (revObj a ((its.toArray.size : Int) - 1))).objs.size := Heap.lt_size (Heap.get?_push_size _ rfl)
    refine call_list_walk (T := "list_reverseiterator") (Walks.listRev (show X.A.in1.in1.handled = none from I1.ok.hd hc) s1.heap.objs.size a hne its.toArray) (fun i s x => x.2.1.typeIs) (fun s E Q x h => hint_list x.2.1 h) (by decide) (by decide)
      ⟨Nat.zero_le _, ⟨_, Heap.get?_push_size _ rfl, rfl, by simp [revObj]⟩, hl.push _⟩ hps (Nat.lt_trans hlt hps) hn fun h' tk acc c hk hS hi => ?_
    refine ⟨.ref _, upd H1 _ (.lst xs.reverse), I1.turnedNew (t' := tk) (ch := [s1.heap.objs.size]) (fun b o hb e => hk b o (fun z => hb (by rw [z]; exact List.mem_singleton.mpr rfl)) (k0 b o e)) (fun b hb => by rw [List.mem_singleton.mp hb]; exact ⟨f0, f1, f2, f3, f4, f5⟩) (Nat.le_of_lt hps)
      (show ObjOk X.prog X.w _ _ _ (.lst xs.reverse) from ⟨by rw [List.length_reverse]; exact hz, acc.toList, c, vals_rev rv hi, by rw [Array.toArray_toList]; exact hS⟩), rfl, q _ (I1.hok.fresh (Nat.le_of_lt hps))⟩
  · obtain ⟨its, rv, p', hz⟩ := I1.tuple hq
    have hl := rv.length
    have hn' := line63
    refine call_reversed_tup p' (fun A E Q k => len_tuple p' (by simp only [List.size_toArray] <;> omega) k) (args_nil ?_)
    have k0 : ∀ b o, s1.heap.get? b = some o → (s1.heap.push (rtObj a ((its.toArray.size : Int) - 1))).get? b = some o := fun b o e => Heap.get?_push_of_some _ e
    obtain ⟨f0, f1, f2, f3, f4, f5⟩ := I1.fpOk (H' := H1) (b := s1.heap.objs.size) (Nat.le_refl _) (I1.hok.fresh (Nat.le_refl _))
    have hlt := p'.lt
    have hne : a ≠ s1.heap.objs.size := Nat.ne_of_lt hlt
    have hn : its.toArray.size ≤ sizeLine := by rw [List.size_toArray, ← rv.length]; exact hz
    have hps : s1.heap.objs.size < (s1.heap.push (rtObj a ((its.toArray.size : Int) - 1))).objs.size := Heap.lt_size (Heap.get?_push_size _ rfl)
    refine call_list_walk (T := "reversed") (walks_rt (show X.A.in1.in1.handled = none from I1.ok.hd hc) s1.heap.objs.size a hne its.toArray hn) (fun i s x => x.2.1.typeIs) (fun s E Q x h => hint_tup (by have z := x.2.1; rw [show (its.toArray.size : Int) - 1 - ((0 : Nat) : Int) = (its.toArray.size : Int) - 1 by omega] at z; exact z) x.2.2 hn h) (by decide) (by decide)
      ⟨Nat.zero_le _, ⟨_, Heap.get?_push_size _ rfl, rfl, by simp [rtObj]⟩, p'.push _⟩ hps (Nat.lt_trans hlt hps) hn fun h' tk acc c hk hS hi => ?_
    refine ⟨.ref _, upd H1 _ (.lst xs.reverse), I1.turnedNew (t' := tk) (ch := [s1.heap.objs.size]) (fun b o hb e => hk b o (fun z => hb (by rw [z]; exact List.mem_singleton.mpr rfl)) (k0 b o e)) (fun b hb => by rw [List.mem_singleton.mp hb]; exact ⟨f0, f1, f2, f3, f4, f5⟩) (Nat.le_of_lt hps)
      (show ObjOk X.prog X.w _ _ _ (.lst xs.reverse) from ⟨by rw [List.length_reverse]; exact hz, acc.toList, c, vals_rev rv hi, by rw [Array.toArray_toList]; exact hS⟩), rfl, q _ (I1.hok.fresh (Nat.le_of_lt hps))⟩
end
end RT

namespace G
open PySem PySem.Spec PyProof.Rows L2
section
variable {X : Cx} {M : Mw} {Φ : Nat → Option Fn} {E : XK} {e : Expr} {c : C} {p p2 pos pos2 : Pos}
theorem f_lrev (hK : X.K = M.K) (hc : X.calm = true) (hg : Gl X "list") (hm : X.mg "list" = none) (hg2 : Gl X "reversed") (hm2 : X.mg "reversed" = none) (h1 : noStar e = true) (ha : PE X e (tP M Φ c E)) :
    PE X (.Call (.Name "list" p) [.Call (.Name "reversed" p2) [e] [] pos2] [] pos) (tF M Φ (.b1 .lrev c) E) := by
  refine (RT.pe_listRev hc hg hm hg2 hm2 ha (star_of h1) rfl).imp fun σ H Q q0 => ?_
  obtain ⟨g, H0, δ, s, w, so, h⟩ := tF.bindP q0
  refine ⟨g, H0, δ, s, w, so, h.mono fun v H1 ⟨g0, H2, g1, s1, x, v2, e, l1, w1, r1, h⟩ => ?_⟩
  cases e
  cases x with
  | d d =>
    cases d with
    | lst ds =>
      obtain ⟨a, vs, rfl, h2, h3⟩ := r1.lst w1
      exact ⟨a, vs, rfl, .inl (SqL.of (K := X.K) h2), fun q hq => PostF.pure l1 w1 h h3.rev hq⟩
    | tup ds =>
      obtain ⟨a, vs, rfl, h2, h3⟩ := r1
      exact ⟨a, vs, rfl, .inr (by rw [hK]; exact h2.mono' w1), fun q hq => PostF.pure l1 w1 h h3.rev hq⟩
    | _ => exact False.elim h
  | _ => exact False.elim h
theorem ev_lrev {gl : Nat → D} {Φ : Nat → Option Fn} : ∀ δ s w s', evC gl Φ (.b1 .lrev c) δ s = .ok w s' → ∃ ds, w = .d (.lst ds) := by
  intro δ s w s' e
  rw [evC] at e
  cases e1 : peek c δ s (evC gl Φ c δ s) with
  | exc c s1 => rw [e1] at e; cases e
  | bad => rw [e1] at e; cases e
  | ok x s1 =>
    rw [e1] at e
    cases x with
    | d d =>
      cases d <;> first | (cases e; exact ⟨_, rfl⟩) | cases e
    | _ => cases e
end
end G
end
section
set_option Elab.async false
set_option linter.all false
set_option maxRecDepth 100000
set_option maxHeartbeats 1000000
/-! the world of a law, calls of defs, statements -/
namespace G
open PySem PySem.Spec PyProof.Rows L2
structure Wd where
  M : Mw
  mg : Str → Option Value
  base : Heap
abbrev Wd.P (U : Wd) : Program := U.M.P
abbrev Wd.w (U : Wd) : World := U.M.w
structure Fit (U : Wd) (L : Nat) (E : XK) (X : Cx) : Prop where
  prog : X.prog = U.P
  w : X.w = U.w
  K : X.K = U.M.K
  mg : X.mg = U.mg
  base : X.base = U.base
  room : Room L X.A
  calm : X.calm = true
  nd : X.N.Nodup
  passes : Passes (L2N.CX U.P U.w) X E
  kind : X.env.scope.kind = .function
structure FitS (U : Wd) (L : Nat) (E : XK) (X : Cx) : Prop extends Fit U L E X where
  own : PassesOwn (model X.prog X.w) X.A X.env X.xe
  takes : L2N.Takes X (fun c d _ H => E c d H)
/-- what a def does, by φ -/
def spD (M : Mw) (φ : Fn) (n : Nat) : Sp := fun vs H Q E => ∃ g s ws, WOk M g H s ∧ RepWs M g ws vs ∧ ws.length = n ∧ Post M E (φ ws s) g H Q
structure FOk (U : Wd) (k : Nat) (x : Str) (n : Nat) (φ : Fn) : Prop where
  ex : ∃ (f : Addr) (fd : FuncData) (ps : List Str), FnOk U.P U.w U.M.K U.mg U.base (L2N.CX U.P U.w) k f fd ps (spD U.M φ n) ∧ U.mg x = some (.ref f) ∧ PySem.W.keepIn U.M.K (.ref f) = true ∧ Binds U.M.K fd ps [] ∧ ps.length = n
  ar : ∀ ws s, ws.length ≠ n → φ ws s = .bad
theorem cx_no {P : Program} {w : World} {outer : List PySem.Env} {H : Hp} {s s' : Shared} {u : Value} (h : L2N.CX P w outer H s noE u s') : False := by
  obtain ⟨_, _, _, _, _, _, _, _, _, _, _, _, h⟩ := h
  exact h
theorem Fit.blk {U : Wd} {L : Nat} {E : XK} {X : Cx} (F : Fit U L E X) {s : Shared} {H : Hp} {scope : Scope} {C : Addr} {cl : List (Str × Addr)} {fp : List Addr} (hk : scope.kind = .function) : Fit U L noE (X.blk s H scope (compEnvC scope cl C X.env) fp) where
  prog := F.prog
  w := F.w
  K := F.K
  mg := F.mg
  base := F.base
  room := F.room
  calm := F.calm
  nd := F.nd
  passes := fun pins σ H s e s' I c => cx_no c
  kind := hk
section
variable {U : Wd} {L : Nat} {E : XK} {X : Cx} {Φ : Nat → Option Fn} {e : Expr} {es : List Expr} {cs : Cs} {x : Str} {p pos : Pos}
theorem s_call {k i n : Nat} {φ : Fn} (F : Fit U L E X) (fo : FOk U k x n φ) (hk : k ≤ L) (hΦ : Φ i = some φ) (hg : Gl X x) (hd : (x == ("__debug__" : Str)) = false) (h1 : (e :: es).all noStar = true)
    (ha : PA X (e :: es) (tWs U.M Φ cs E)) : PE X (.Call (.Name x p) (e :: es) [] pos) (tC U.M Φ (.call i cs) E) := by
  obtain ⟨⟨f, fd, ps, f1, f2, f3, f4, f5⟩, ar⟩ := fo
  rw [← F.prog, ← F.w, ← F.K, ← F.mg, ← F.base] at f1
  rw [← F.mg] at f2
  rw [← F.K] at f3 f4
  have hp := F.passes
  rw [← F.prog, ← F.w] at hp
  rw [List.all_cons, Bool.and_eq_true] at h1
  refine (pe_call f1 (F.room.mono hk) hg f2 f3 f4 .nil hp ha hd (star_of h1.1) (plain_of h1.2)).imp fun σ H Q ⟨g, H0, δ, s, w, so, h⟩ => ?_
  unfold evC at h
  refine ⟨g, H0, δ, s, w, so, h.bind.mono fun vs H1 ⟨g1, ws, s1, l1, w1, r1, h1⟩ => ?_⟩
  rw [hΦ] at h1
  refine ⟨g1, s1, ws, w1, by rw [List.append_nil]; exact r1, ?_, h1⟩
  by_cases hn : ws.length = n
  · exact hn
  · simp only [ar ws s1 hn] at h1
    exact False.elim h1
end
/-! ### statements -/
/-- a def's entry, and a part of the heap that stands for ever -/
structure En where
  g : Gh
  H : Hp
  b : Gh
structure Lx (n : En) (g : Gh) (H : Hp) : Prop where
  le : Le n.g n.H g H
  sb : Sub n.b.F g.F
theorem Lx.trans {n : En} {g g1 : Gh} {H H1 : Hp} (a : Lx n g H) (b : Le g H g1 H1) : Lx n g1 H1 := ⟨a.le.trans b, a.sb.trans b.fr⟩
theorem Lx.free_ {n : En} {g : Gh} {H : Hp} {p : Addr} (a : Lx n g H) (h : H p = none) : n.H p = none := a.le.free_ h
/-- what is wanted of a statement's end, seen from the def's entry -/
def PostS (M : Mw) (E : XK) (n : En) (r : RS) (D : Ends) : Prop := match r with
  | .nx δ s => ∀ σ g H, Lx n g H → WOk M g H s → SOk M g n.H H σ δ → D.nx σ H
  | .rt w s => ∀ v g H, Lx n g H → WOk M g H s → RepW M g w v → D.rt v H
  | .exc c s => ∀ g H, Lx n g H → WOk M g H s → E (.ref (M.ec c)) none H
  | .bad => False
def tSt (M : Mw) (f : Env → Sto → RS) (E : XK) : TS := fun D σ H => ∃ n g δ s, Lx n g H ∧ WOk M g H s ∧ SOk M g n.H H σ δ ∧ PostS M E n (f δ s) D
section
variable {M : Mw} {E : XK} {n : En} {g : Gh} {H0 H : Hp} {D : Ends}
theorem PostS.exp {α β : Type} {Rel : Gh → Hp → α → β → Prop} {r : Res α} {k : α → Sto → RS} (l : Lx n g H) (h : PostS M E n (r.toS k) D) :
    PostG M E Rel r g H (fun b H1 => ∃ g1 a s1, Le g H g1 H1 ∧ WOk M g1 H1 s1 ∧ Rel g1 H1 a b ∧ PostS M E n (k a s1) D) := by
  cases r with
  | ok a s => exact fun b g1 H1 l1 w q => ⟨g1, a, s, l1, w, q, h⟩
  | exc c s => exact fun g1 H1 l1 w => h g1 H1 (l.trans l1) w
  | bad => exact h
theorem PostS.expF {r : Res W} {k : W → Sto → RS} (l : Lx n g H) (h : PostS M E n (r.toS k) D) (hl : ∀ w s, r = .ok w s → (∃ ds, w = .d (.lst ds)) ∨ k w s = .bad) :
    PostF M E r g H (fun v H1 => ∃ g1 ds s1 p vs, v = .ref p ∧ Le g H g1 H1 ∧ WOk M g1 H1 s1 ∧ H p = none ∧ g1.F p = none ∧ H1 p = some (.lst vs) ∧ Reps M.K g1.F ds vs ∧ PostS M E n (k (.d (.lst ds)) s1) D) := by
  cases r with
  | ok a s =>
    rcases hl a s rfl with ⟨ds, rfl⟩ | z
    · exact fun p vs g1 H1 l1 w h1 h2 h3 h4 => ⟨g1, ds, s, p, vs, rfl, l1, w, h1, h2, h3, h4, h⟩
    · have h : PostS M E n (k a s) D := h
      rw [z] at h
      exact False.elim h
  | exc c s => exact fun g1 H1 l1 w => h g1 H1 (l.trans l1) w
  | bad => exact h
/-- one after another -/
theorem PostS.then_ {r : RS} {f : Env → Sto → RS} (h : PostS M E n (r.then f) D) : PostS M E n r { D with nx := fun σ H1 => tSt M f E D σ H1 } := by
  cases r with
  | nx δ s => exact fun σ g H l w so => ⟨n, g, δ, s, l, w, so, h⟩
  | rt w s => exact h
  | exc c s => exact h
  | bad => exact h
theorem SOk.putOwn {σ : L2.St} {δ : Env} {i : Nat} {p : Addr} {vs : List V} {ds : List G.D} (so : SOk M g H0 H σ δ) (h1 : H p = some (.lst vs)) (h2 : g.F p = none) (h3 : H0 p = none) (h4 : p ≠ g.da) (h5 : p ≠ g.ba) (h6 : Reps M.K g.F ds vs)
    (ha : ∀ j, j ≠ i → isOwn δ[j]? = true → σ[j]? ≠ some (some (V.ref p))) : SOk M g H0 H (σ.set i (some (.ref p))) (δ.set i (.own ds)) where
  len := by rw [List.length_set, List.length_set]; exact so.len
  w := fun j w e => by
    rw [get_set] at e ⊢
    rw [so.len] at e
    by_cases h : i = j ∧ i < σ.length
    · rw [if_pos h] at e; cases e
    · rw [if_neg h] at e ⊢; exact so.w j w e
  own := fun j ds' e => by
    rw [get_set] at e ⊢
    rw [so.len] at e
    by_cases h : i = j ∧ i < σ.length
    · rw [if_pos h] at e ⊢
      cases e
      exact ⟨p, vs, rfl, h1, h2, h3, h4, h5, h6⟩
    · rw [if_neg h] at e ⊢; exact so.own j ds' e
  ownd := fun j ds' e => by
    rw [get_set] at e ⊢
    rw [so.len] at e
    by_cases h : i = j ∧ i < σ.length
    · rw [if_pos h] at e; cases e
    · rw [if_neg h] at e ⊢; exact so.ownd j ds' e
  apart := fun j k a hjk q1 q2 q3 => by
    rw [get_set] at q1 q2 q3
    rw [get_set]
    rw [so.len] at q1 q2
    by_cases hj : i = j ∧ i < σ.length
    · rw [if_pos hj] at q3
      cases q3
      have hk : ¬ (i = k ∧ i < σ.length) := fun z => hjk (hj.1.symm.trans z.1)
      rw [if_neg hk] at q2 ⊢
      exact ha k (fun z => hjk (by rw [← hj.1, z])) q2
    · rw [if_neg hj] at q1 q3
      by_cases hk : i = k ∧ i < σ.length
      · rw [if_pos hk]
        intro z
        cases z
        exact ha j (fun z => hj ⟨z.symm, hk.2⟩) q1 q3
      · rw [if_neg hk] at q2 ⊢
        exact so.apart j k a hjk q1 q2 q3
/-- an own list's address is taken -/
theorem SOk.taken {σ : L2.St} {δ : Env} {j : Nat} {p : Addr} (so : SOk M g H0 H σ δ) (h : H p = none) (o : isOwn δ[j]? = true) : σ[j]? ≠ some (some (V.ref p)) := by
  intro z
  cases e : δ[j]? with
  | none => rw [e] at o; cases o
  | some sl =>
    rw [e] at o
    cases sl with
    | own ds =>
      obtain ⟨a, vs, e1, e2, _⟩ := so.own j ds e
      rw [z] at e1; cases e1
      rw [h] at e2; cases e2
    | ownd ds =>
      obtain ⟨a, vs, e1, e2, _⟩ := so.ownd j ds e
      rw [z] at e1; cases e1
      rw [h] at e2; cases e2
    | no => cases o
    | w w => cases o
/-- an own list is written -/
theorem SOk.write {σ : L2.St} {δ : Env} {i : Nat} {p : Addr} {vs us : List V} {ds es : List G.D} (so : SOk M g H0 H σ δ) (hi : δ[i]? = some (.own ds)) (hp : σ[i]? = some (some (.ref p))) (h1 : H p = some (.lst vs)) (h6 : Reps M.K g.F es us) : SOk M g H0 (upd H p (.lst us)) σ (δ.set i (.own es)) := by
  obtain ⟨p', vs', e1, e2, e3, e4, e5, e6, e7⟩ := so.own i ds hi
  rw [hp] at e1
  cases e1
  have oi : isOwn δ[i]? = true := by rw [hi]; rfl
  have hlt : i < δ.length := (List.getElem?_eq_some_iff.mp hi).1
  have other : ∀ j a, j ≠ i → isOwn δ[j]? = true → σ[j]? = some (some (V.ref a)) → a ≠ p := fun j a hj oj e z => by
    subst z
    exact so.apart i j a (Ne.symm hj) oi oj hp e
  constructor
  · rw [List.length_set]; exact so.len
  · intro j w e
    rw [get_set] at e
    by_cases h : i = j ∧ i < δ.length
    · rw [if_pos h] at e; cases e
    · rw [if_neg h] at e; exact so.w j w e
  · intro j ds' e
    rw [get_set] at e
    by_cases h : i = j ∧ i < δ.length
    · rw [if_pos h] at e
      cases e
      rw [← h.1]
      exact ⟨p, us, hp, upd_same, e3, e4, e5, e6, h6⟩
    · rw [if_neg h] at e
      obtain ⟨a, xs, q1, q2, q3, q4⟩ := so.own j ds' e
      have hne : a ≠ p := other j a (fun z => h ⟨z.symm, hlt⟩) (by rw [e]; rfl) q1
      exact ⟨a, xs, q1, by rw [upd_ne hne]; exact q2, q3, q4⟩
  · intro j ds' e
    rw [get_set] at e
    by_cases h : i = j ∧ i < δ.length
    · rw [if_pos h] at e; cases e
    · rw [if_neg h] at e
      obtain ⟨a, xs, q1, q2, q3, q4⟩ := so.ownd j ds' e
      have hne : a ≠ p := other j a (fun z => h ⟨z.symm, hlt⟩) (by rw [e]; rfl) q1
      exact ⟨a, xs, q1, by rw [upd_ne hne]; exact q2, q3, q4⟩
  · intro j k a hjk q1 q2 q3
    have conv : ∀ j, isOwn (δ.set i (.own es))[j]? = true → isOwn δ[j]? = true := fun j q => by
      rw [get_set] at q
      by_cases h : i = j ∧ i < δ.length
      · rw [← h.1]; exact oi
      · rw [if_neg h] at q; exact q
    exact so.apart j k a hjk (conv j q1) (conv k q2) q3
theorem WOk.writeX {p : Addr} {xs : Xs} {o : HO} {s : Sto} (w : WOk M g H s) (h : H p = some (DX M.P M.w p xs)) (hF : g.F p = none) (hd : p ≠ g.da) : WOk M g (upd H p o) s where
  sub := fun a u e => by
    have : a ≠ p := fun z => by subst z; rw [hF] at e; cases e
    rw [upd_ne this]; exact w.sub _ _ e
  dan := by rw [upd_ne (Ne.symm hd)]; exact w.dan
  ban := by
    by_cases hb : g.ba = p
    · rw [hb, upd_same]; simp
    · rw [upd_ne hb]; exact w.ban
  dice := fun c m e => by
    obtain ⟨h1, h2⟩ := w.dice c m e
    exact ⟨by rw [upd_ne (Ne.symm hd)]; exact h1, h2⟩
  book := w.book
  tabs := tab_dx w.tabs h
  ntab := w.ntab
theorem SOk.putX {σ : L2.St} {δ : Env} {i : Nat} {p : Addr} {xs : Xs} {kvs : List (G.D × G.D)} (so : SOk M g H0 H σ δ) (h1 : H p = some (DX M.P M.w p xs)) (h2 : g.F p = none) (h3 : H0 p = none) (h4 : p ≠ g.da) (h5 : p ≠ g.ba) (h6 : RepT M.K g.F kvs xs)
    (ha : ∀ j, j ≠ i → isOwn δ[j]? = true → σ[j]? ≠ some (some (V.ref p))) : SOk M g H0 H (σ.set i (some (.ref p))) (δ.set i (.ownd kvs)) where
  len := by rw [List.length_set, List.length_set]; exact so.len
  w := fun j w e => by
    rw [get_set] at e ⊢
    rw [so.len] at e
    by_cases h : i = j ∧ i < σ.length
    · rw [if_pos h] at e; cases e
    · rw [if_neg h] at e ⊢; exact so.w j w e
  own := fun j ds' e => by
    rw [get_set] at e ⊢
    rw [so.len] at e
    by_cases h : i = j ∧ i < σ.length
    · rw [if_pos h] at e; cases e
    · rw [if_neg h] at e ⊢; exact so.own j ds' e
  ownd := fun j ds' e => by
    rw [get_set] at e ⊢
    rw [so.len] at e
    by_cases h : i = j ∧ i < σ.length
    · rw [if_pos h] at e ⊢
      cases e
      exact ⟨p, xs, rfl, h1, h2, h3, h4, h5, h6⟩
    · rw [if_neg h] at e ⊢; exact so.ownd j ds' e
  apart := fun j k a hjk q1 q2 q3 => by
    rw [get_set] at q1 q2 q3
    rw [get_set]
    rw [so.len] at q1 q2
    by_cases hj : i = j ∧ i < σ.length
    · rw [if_pos hj] at q3
      cases q3
      have hk : ¬ (i = k ∧ i < σ.length) := fun z => hjk (hj.1.symm.trans z.1)
      rw [if_neg hk] at q2 ⊢
      exact ha k (fun z => hjk (by rw [← hj.1, z])) q2
    · rw [if_neg hj] at q1 q3
      by_cases hk : i = k ∧ i < σ.length
      · rw [if_pos hk]
        intro z
        cases z
        exact ha j (fun z => hj ⟨z.symm, hk.2⟩) q1 q3
      · rw [if_neg hk] at q2 ⊢
        exact so.apart j k a hjk q1 q2 q3
/-- an own dict is written -/
theorem SOk.writeX {σ : L2.St} {δ : Env} {i : Nat} {p : Addr} {xs ys : Xs} {kvs es : List (G.D × G.D)} (so : SOk M g H0 H σ δ) (hi : δ[i]? = some (.ownd kvs)) (hp : σ[i]? = some (some (.ref p))) (h1 : H p = some (DX M.P M.w p xs)) (h6 : RepT M.K g.F es ys) : SOk M g H0 (upd H p (DX M.P M.w p ys)) σ (δ.set i (.ownd es)) := by
  obtain ⟨p', vs', e1, e2, e3, e4, e5, e6, e7⟩ := so.ownd i kvs hi
  rw [hp] at e1
  cases e1
  have oi : isOwn δ[i]? = true := by rw [hi]; rfl
  have hlt : i < δ.length := (List.getElem?_eq_some_iff.mp hi).1
  have other : ∀ j a, j ≠ i → isOwn δ[j]? = true → σ[j]? = some (some (V.ref a)) → a ≠ p := fun j a hj oj e z => by
    subst z
    exact so.apart i j a (Ne.symm hj) oi oj hp e
  constructor
  · rw [List.length_set]; exact so.len
  · intro j w e
    rw [get_set] at e
    by_cases h : i = j ∧ i < δ.length
    · rw [if_pos h] at e; cases e
    · rw [if_neg h] at e; exact so.w j w e
  · intro j ds' e
    rw [get_set] at e
    by_cases h : i = j ∧ i < δ.length
    · rw [if_pos h] at e; cases e
    · rw [if_neg h] at e
      obtain ⟨a, xs, q1, q2, q3, q4⟩ := so.own j ds' e
      have hne : a ≠ p := other j a (fun z => h ⟨z.symm, hlt⟩) (by rw [e]; rfl) q1
      exact ⟨a, xs, q1, by rw [upd_ne hne]; exact q2, q3, q4⟩
  · intro j ds' e
    rw [get_set] at e
    by_cases h : i = j ∧ i < δ.length
    · rw [if_pos h] at e
      cases e
      rw [← h.1]
      exact ⟨p, ys, hp, upd_same, e3, e4, e5, e6, h6⟩
    · rw [if_neg h] at e
      obtain ⟨a, xs, q1, q2, q3, q4⟩ := so.ownd j ds' e
      have hne : a ≠ p := other j a (fun z => h ⟨z.symm, hlt⟩) (by rw [e]; rfl) q1
      exact ⟨a, xs, q1, by rw [upd_ne hne]; exact q2, q3, q4⟩
  · intro j k a hjk q1 q2 q3
    have conv : ∀ j, isOwn (δ.set i (.ownd es))[j]? = true → isOwn δ[j]? = true := fun j q => by
      rw [get_set] at q
      by_cases h : i = j ∧ i < δ.length
      · rw [← h.1]; exact oi
      · rw [if_neg h] at q; exact q
    exact so.apart j k a hjk (conv j q1) (conv k q2) q3
/-- an own dict is locked: it stands for ever -/
theorem SOk.freezeX {σ : L2.St} {δ : Env} {i : Nat} {s : Sto} {kvs : List (G.D × G.D)} (l : Lx n g H) (w : WOk M g H s) (so : SOk M g n.H H σ δ) (hi : δ[i]? = some (.ownd kvs)) : ∃ p xs, H p = some (DX M.P M.w p xs) ∧ ∀ od : Obj, ∃ g', Lx n g' (upd H p (.frz od (DX M.P M.w p xs))) ∧ WOk M g' (upd H p (.frz od (DX M.P M.w p xs))) s ∧ SOk M g' n.H (upd H p (.frz od (DX M.P M.w p xs))) σ (δ.set i (.w (.dct kvs))) := by
  obtain ⟨p, xs, e1, e2, e3, e4, e5, e6, e7⟩ := so.ownd i kvs hi
  refine ⟨p, xs, e2, fun od => ?_⟩
  have oi : isOwn δ[i]? = true := by rw [hi]; rfl
  have sb : Sub g.F (g.add p (.frz od (DX M.P M.w p xs))).F := Sub.upd e3
  have hlt : i < δ.length := (List.getElem?_eq_some_iff.mp hi).1
  have w1 := w.writeX (o := .frz od (DX M.P M.w p xs)) e2 e3 e5
  refine ⟨g.add p (.frz od (DX M.P M.w p xs)), ⟨⟨l.le.fr.trans sb, fun a o e => ?_, fun a u e h1 h2 h3 => ?_, fun a e => ?_, l.le.da, l.le.ba⟩, l.sb.trans sb⟩, w1.freeze upd_same e5, ?_⟩
  · by_cases ha : a = p
    · subst ha; exact .inr e4
    · rw [show (g.add p (.frz od (DX M.P M.w p xs))).F = upd g.F p _ from rfl, upd_ne ha] at e
      exact l.le.new a o e
  · have : a ≠ p := fun z => by subst z; rw [e4] at e; cases e
    rw [upd_ne this]
    exact l.le.keep a u e h1 h2 h3
  · by_cases ha : a = p
    · subst ha; rw [upd_same]; simp
    · rw [upd_ne ha]; exact l.le.there a e
  · have rep : ∀ w v, RepW M g w v → RepW M (g.add p (.frz od (DX M.P M.w p xs))) w v := fun w v r => by
      cases w with
      | d d => exact Rep.mono sb d r
      | dct kvs =>
        obtain ⟨a, o, xs, e, q1, q2⟩ := r
        exact ⟨a, o, xs, e, sb _ _ q1, q2.mono sb⟩
      | dci kvs =>
        obtain ⟨a, kv, e, q1, q2⟩ := r
        exact ⟨a, kv, e, sb _ _ q1, q2.mono sb⟩
      | dice => exact r
      | book => exact r
      | exc c => exact r
    constructor
    · rw [List.length_set]; exact so.len
    · intro j w' e
      rw [get_set] at e
      by_cases h : i = j ∧ i < δ.length
      · rw [if_pos h] at e
        cases e
        rw [← h.1]
        exact ⟨.ref p, e1, p, od, xs, rfl, upd_same, e7.mono sb⟩
      · rw [if_neg h] at e
        obtain ⟨v, q1, q2⟩ := so.w j w' e
        exact ⟨v, q1, rep w' v q2⟩
    · intro j ds' e
      rw [get_set] at e
      by_cases h : i = j ∧ i < δ.length
      · rw [if_pos h] at e; cases e
      · rw [if_neg h] at e
        obtain ⟨a, xs, q1, q2, q3, q4, q5, q6, q7⟩ := so.own j ds' e
        have hne : a ≠ p := fun z => by
          subst z
          exact so.apart i j a (fun z => h ⟨z, hlt⟩) oi (by rw [e]; rfl) e1 q1
        exact ⟨a, xs, q1, by rw [upd_ne hne]; exact q2, by show upd g.F p _ a = none; rw [upd_ne hne]; exact q3, q4, q5, q6, q7.mono sb⟩
    · intro j ds' e
      rw [get_set] at e
      by_cases h : i = j ∧ i < δ.length
      · rw [if_pos h] at e; cases e
      · rw [if_neg h] at e
        obtain ⟨a, xs, q1, q2, q3, q4, q5, q6, q7⟩ := so.ownd j ds' e
        have hne : a ≠ p := fun z => by
          subst z
          exact so.apart i j a (fun z => h ⟨z, hlt⟩) oi (by rw [e]; rfl) e1 q1
        exact ⟨a, xs, q1, by rw [upd_ne hne]; exact q2, by show upd g.F p _ a = none; rw [upd_ne hne]; exact q3, q4, q5, q6, q7.mono sb⟩
    · intro j k a hjk q1 q2 q3
      have conv : ∀ j, isOwn (δ.set i (.w (.dct kvs)))[j]? = true → isOwn δ[j]? = true := fun j q => by
        rw [get_set] at q
        by_cases h : i = j ∧ i < δ.length
        · rw [if_pos h] at q; cases q
        · rw [if_neg h] at q; exact q
      exact so.apart j k a hjk (conv j q1) (conv k q2) q3
/-- a slot's list is from now on one that stands for ever -/
theorem SOk.freeze {σ : L2.St} {δ : Env} {i : Nat} {s : Sto} (l : Lx n g H) (w : WOk M g H s) (so : SOk M g n.H H σ δ) : (∀ ds, δ[i]? ≠ some (.ownd ds)) → ∃ g', Lx n g' H ∧ WOk M g' H s ∧ SOk M g' n.H H σ (freeze i δ) := by
  intro hno
  unfold G.freeze
  split
  · rename_i ds hi
    obtain ⟨p, vs, e1, e2, e3, e4, e5, e6, e7⟩ := so.own i ds hi
    have oi : isOwn δ[i]? = true := by rw [hi]; rfl
    have sb : Sub g.F (g.add p (.lst vs)).F := Sub.upd e3
    have hlt : i < δ.length := (List.getElem?_eq_some_iff.mp hi).1
    refine ⟨g.add p (.lst vs), ⟨⟨l.le.fr.trans sb, fun a o e => ?_, l.le.keep, l.le.there, l.le.da, l.le.ba⟩, l.sb.trans sb⟩, w.freeze e2 e5, ?_⟩
    · by_cases ha : a = p
      · subst ha; exact .inr e4
      · rw [show (g.add p (.lst vs)).F = upd g.F p (.lst vs) from rfl, upd_ne ha] at e
        exact l.le.new a o e
    · have rep : ∀ w v, RepW M g w v → RepW M (g.add p (.lst vs)) w v := fun w v r => by
        cases w with
        | d d => exact Rep.mono sb d r
        | dct kvs =>
          obtain ⟨a, o, xs, e, q1, q2⟩ := r
          exact ⟨a, o, xs, e, sb _ _ q1, q2.mono sb⟩
        | dci kvs =>
          obtain ⟨a, kv, e, q1, q2⟩ := r
          exact ⟨a, kv, e, sb _ _ q1, q2.mono sb⟩
        | dice => exact r
        | book => exact r
        | exc c => exact r
      constructor
      · rw [List.length_set]; exact so.len
      · intro j w' e
        rw [get_set] at e
        by_cases h : i = j ∧ i < δ.length
        · rw [if_pos h] at e
          cases e
          rw [← h.1]
          exact ⟨.ref p, e1, p, vs, rfl, upd_same, e7.mono sb⟩
        · rw [if_neg h] at e
          obtain ⟨v, q1, q2⟩ := so.w j w' e
          exact ⟨v, q1, rep w' v q2⟩
      · intro j ds' e
        rw [get_set] at e
        by_cases h : i = j ∧ i < δ.length
        · rw [if_pos h] at e; cases e
        · rw [if_neg h] at e
          obtain ⟨a, xs, q1, q2, q3, q4, q5, q6, q7⟩ := so.own j ds' e
          have hne : a ≠ p := fun z => by
            subst z
            exact so.apart i j a (fun z => h ⟨z, hlt⟩) oi (by rw [e]; rfl) e1 q1
          exact ⟨a, xs, q1, q2, by show upd g.F p _ a = none; rw [upd_ne hne]; exact q3, q4, q5, q6, q7.mono sb⟩
      · intro j ds' e
        rw [get_set] at e
        by_cases h : i = j ∧ i < δ.length
        · rw [if_pos h] at e; cases e
        · rw [if_neg h] at e
          obtain ⟨a, xs, q1, q2, q3, q4, q5, q6, q7⟩ := so.ownd j ds' e
          have hne : a ≠ p := fun z => by
            subst z
            exact so.apart i j a (fun z => h ⟨z, hlt⟩) oi (by rw [e]; rfl) e1 q1
          exact ⟨a, xs, q1, q2, by show upd g.F p _ a = none; rw [upd_ne hne]; exact q3, q4, q5, q6, q7.mono sb⟩
      · intro j k a hjk q1 q2 q3
        have conv : ∀ j, isOwn (δ.set i (.w (.d (.lst ds))))[j]? = true → isOwn δ[j]? = true := fun j q => by
          rw [get_set] at q
          by_cases h : i = j ∧ i < δ.length
          · rw [if_pos h] at q; cases q
          · rw [if_neg h] at q; exact q
        exact so.apart j k a hjk (conv j q1) (conv k q2) q3
  · rename_i kvs hi
    exact absurd hi (hno kvs)
  · exact ⟨g, l, w, so⟩
end
end G
end
section
set_option Elab.async false
set_option linter.all false
set_option maxRecDepth 100000
set_option maxHeartbeats 1000000
/-! statements -/
namespace G
open PySem PySem.Spec PyProof.Rows L2
section
variable {M : Mw} {n : En} {g : Gh} {H0 H : Hp} {s : Sto} {E : XK} {D : Ends} {Φ : Nat → Option Fn} {X : Cx} {σ : L2.St} {δ : Env}
noncomputable abbrev evs (M : Mw) (Φ : Nat → Option Fn) (c : S) : Env → Sto → RS := fun δ s => evS M.gl Φ c δ s
noncomputable abbrev evss (M : Mw) (Φ : Nat → Option Fn) (c : Ss) : Env → Sto → RS := fun δ s => evSs M.gl Φ c δ s
theorem st_nil : PSs X [] (tSt M (evss M Φ .nil) E) := pss_nil.imp fun D σ H ⟨n, g, δ, s, l, w, so, h⟩ => by
  simp only [evSs] at h
  exact h σ g H l w so
theorem st_cons {st : Stmt} {rest : List Stmt} {c : S} {cs : Ss} (h1 : PS X st (tSt M (evs M Φ c) E)) (h2 : PSs X rest (tSt M (evss M Φ cs) E)) : PSs X (st :: rest) (tSt M (evss M Φ (.cons c cs)) E) := by
  refine (pss_cons h1 h2).imp fun D σ H ⟨n, g, δ, s, l, w, so, h⟩ => ⟨n, g, δ, s, l, w, so, ?_⟩
  simp only [evSs] at h
  exact h.then_
theorem pss_lock {sts : List Stmt} {t : TS} (h : PSs X sts t) : PSs X sts (fun D σ H => t D σ H ∨ ∃ d u, H d = some u ∧ Mut (some u) ∧ ∀ od, t D σ (upd H d (.frz od u))) :=
  ⟨fun pins s σ H D I q => by
    rcases q with q | ⟨d, u, hd, mu, q⟩
    · exact h.run pins s σ H D I q
    · obtain ⟨od, I1⟩ := I.lock hd mu
      exact h.run pins s σ _ D I1 (q od)⟩
theorem st_frz {sts : List Stmt} {i : Nat} {cs : Ss} (h : PSs X sts (tSt M (evss M Φ cs) E)) : PSs X sts (tSt M (evss M Φ (.cons (.frz i) cs)) E) := by
  refine (pss_lock h).imp fun D σ H ⟨n, g, δ, s, l, w, so, h⟩ => ?_
  simp only [evSs, evS] at h
  by_cases hx : ∃ kvs, δ[i]? = some (.ownd kvs)
  · obtain ⟨kvs, hi⟩ := hx
    obtain ⟨p, xs, e, k⟩ := SOk.freezeX l w so hi
    refine .inr ⟨p, _, e, True.intro, fun od => ?_⟩
    obtain ⟨g', l', w', so'⟩ := k od
    refine ⟨n, g', _, s, l', w', so', ?_⟩
    have : freeze i δ = δ.set i (.w (.dct kvs)) := by unfold freeze; rw [hi]
    rw [this] at h
    exact h
  · have hno : ∀ ds, δ[i]? ≠ some (.ownd ds) := fun ds e => hx ⟨ds, e⟩
    obtain ⟨g', l', w', so'⟩ := SOk.freeze l w so hno
    exact .inl ⟨n, g', _, s, l', w', so', h⟩
/-- a new dict -/
theorem st_newd {st : Stmt} {i : Nat} (hP : X.prog = M.P) (hw : X.w = M.w) (h : PS X st (tAsg (tDNewX X.prog X.w) (gName i))) : PS X st (tSt M (evs M Φ (.newd i)) E) := by
  refine h.imp fun D σ H ⟨n, g, δ, s, l, w, so, h⟩ => ?_
  simp only [evS] at h
  intro p hp
  rw [hP, hw]
  have l1 : Le g H g (upd H p (DX M.P M.w p [])) := Le.fresh hp
  have w1 : WOk M g (upd H p (DX M.P M.w p [])) s := w.fresh hp
  exact h _ g _ (l.trans l1) w1 ((so.later l1).putX (xs := []) upd_same (w.free hp) (l.free_ hp) (ne_da w hp) (ne_ba w hp) rfl fun j _ o => so.taken hp o)
theorem st_asg {st : Stmt} {i : Nat} {c : C} (h : PS X st (tAsg (tC M Φ c E) (gName i))) : PS X st (tSt M (evs M Φ (.asg i c)) E) := by
  refine h.imp fun D σ H ⟨n, g, δ, s, l, w, so, h⟩ => ⟨g, n.H, δ, s, w, so, ?_⟩
  simp only [evS] at h
  exact (h.exp l).mono fun v H1 ⟨g1, x, s1, l1, w1, r1, h1⟩ => h1 _ g1 H1 (l.trans l1) w1 ((so.later l1).setW r1)
theorem st_ofF {st : Stmt} {c : C} {g : TG} (hl : ∀ δ s w s', evC M.gl Φ c δ s = .ok w s' → ∃ ds, w = .d (.lst ds)) (h : PS X st (tAsg (tF M Φ c E) g)) : PS X st (tAsg (tC M Φ c E) g) :=
  h.imp fun D σ H ⟨g, H0, δ, s, w, so, h⟩ => ⟨g, H0, δ, s, w, so, Post.fresh w h fun w s e => hl δ _ w s e⟩
theorem st_asgo {st : Stmt} {i : Nat} {c : C} (h : PS X st (tAsg (tF M Φ c E) (gName i))) : PS X st (tSt M (evs M Φ (.asgo i c)) E) := by
  refine h.imp fun D σ H ⟨n, g, δ, s, l, w, so, h⟩ => ⟨g, n.H, δ, s, w, so, ?_⟩
  simp only [evS] at h
  have h2 := h.expF l fun w s e => by
    cases w with
    | d d => cases d <;> first | exact .inl ⟨_, rfl⟩ | exact .inr rfl
    | _ => exact .inr rfl
  have post : ∀ v H1, (∃ g1 ds s1 p vs, v = V.ref p ∧ Le g H g1 H1 ∧ WOk M g1 H1 s1 ∧ H p = none ∧ g1.F p = none ∧ H1 p = some (.lst vs) ∧ Reps M.K g1.F ds vs ∧ PostS M E n (.nx (δ.set i (.own ds)) s1) D) → gName i v σ H1 D.nx := by
    rintro v H1 ⟨g1, ds, s1, p, vs, rfl, l1, w1, q1, q2, q3, q4, h1⟩
    have so1 := so.later l1
    exact h1 _ g1 H1 (l.trans l1) w1 (so1.putOwn q3 q2 (l.free_ q1) (by rw [l1.da]; exact ne_da w q1) (by rw [l1.ba]; exact ne_ba w q1) q4 fun j _ o => so.taken q1 o)
  cases e : evC M.gl Φ c δ s with
  | ok x s1 =>
    rw [e] at h2
    cases x with
    | d d =>
      cases d with
      | lst ds => exact fun p vs g' H' l1 w1 q1 q2 q3 q4 => post _ _ (h2 p vs g' H' l1 w1 q1 q2 q3 q4)
      | _ => exact h2
    | _ => exact h2
  | exc c s1 => rw [e] at h2; exact h2
  | bad => rw [e] at h2; exact h2
theorem st_unp {st : Stmt} {is : List Nat} {c : C} (h : PS X st (tAsg (tC M Φ c E) (gOf M.K true is))) : PS X st (tSt M (evs M Φ (.unp is c)) E) := by
  refine h.imp fun D σ H ⟨n, g, δ, s, l, w, so, h⟩ => ⟨g, n.H, δ, s, w, so, ?_⟩
  simp only [evS] at h
  refine (h.exp l).mono fun v H1 ⟨g1, x, s1, l1, w1, r1, h1⟩ => ?_
  cases x with
  | d d =>
    simp only at h1
    cases e : setTg true is d δ with
    | none => rw [e] at h1; exact False.elim h1
    | some δ' =>
      rw [e] at h1
      exact gOf_ok w1 (so.later l1) e r1 fun σ' so' _ _ => h1 σ' g1 H1 (l.trans l1) w1 so'
  | _ => exact False.elim h1
theorem st_ret {e : Expr} {c : C} {pos : Pos} (h : PE X e (tC M Φ c E)) : PS X (.Return (some e) pos) (tSt M (evs M Φ (.ret c)) E) := by
  refine (ps_ret h).imp fun D σ H ⟨n, g, δ, s, l, w, so, h⟩ => ⟨g, n.H, δ, s, w, so, ?_⟩
  simp only [evS] at h
  exact (h.exp l).mono fun v H1 ⟨g1, x, s1, l1, w1, r1, h1⟩ => h1 v g1 H1 (l.trans l1) w1 r1
theorem st_retn {pos : Pos} : PS X (.Return none pos) (tSt M (evs M Φ .retn) E) := ps_retN.imp fun D σ H ⟨n, g, δ, s, l, w, so, h⟩ => by
  simp only [evS] at h
  exact h .non g H l w rfl
theorem st_pass {pos : Pos} : PS X (.Pass pos) (tSt M (evs M Φ .pass) E) := ps_pass.imp fun D σ H ⟨n, g, δ, s, l, w, so, h⟩ => by
  simp only [evS] at h
  exact h σ g H l w so
theorem st_doc {x : Str} {j : Nat} {pos pos' : Pos} : PS X (.Expr (.Constant (.str x) j pos) pos') (tSt M (evs M Φ .pass) E) := ps_doc.imp fun D σ H ⟨n, g, δ, s, l, w, so, h⟩ => by
  simp only [evS] at h
  exact h σ g H l w so
theorem st_no {st : Stmt} : PS X st (tSt M (evs M Φ .no) E) := ps_never.imp fun D σ H ⟨n, g, δ, s, l, w, so, h⟩ => by
  simp only [evS] at h
  exact h
theorem st_ex {e : Expr} {c : C} {pos : Pos} (h : PE X e (tC M Φ c E)) (hs : swapsWith e none pos.line X.env = pure false) : PS X (.Expr e pos) (tSt M (evs M Φ (.ex c)) E) := by
  refine (ps_expr h hs).imp fun D σ H ⟨n, g, δ, s, l, w, so, h⟩ => ⟨g, n.H, δ, s, w, so, ?_⟩
  simp only [evS] at h
  exact (h.exp l).mono fun v H1 ⟨g1, x, s1, l1, w1, r1, h1⟩ => h1 σ g1 H1 (l.trans l1) w1 (so.later l1)
/-- a test, then the one or the other -/
theorem post_test {r : Res W} {ka kb : Sto → RS} {Q : Bool → Hp → Prop} (l : Lx n g H) (h : PostS M E n (r.toS fun w s => (match truth w with | some true => ka s | some false => kb s | none => .bad)) D)
    (k : ∀ b H1 g1 s1, Le g H g1 H1 → WOk M g1 H1 s1 → PostS M E n (if b = true then ka s1 else kb s1) D → Q b H1) :
    PostG M E (fun _ _ (w : W) (b : Bool) => truth w = some b) (r.bind fun w s => if (truth w).isSome then .ok w s else .bad) g H Q := by
  cases r with
  | ok w s =>
    have h : PostS M E n (match truth w with | some true => ka s | some false => kb s | none => .bad) D := h
    show PostG _ _ _ (if (truth w).isSome = true then Res.ok w s else .bad) _ _ _
    cases e : truth w with
    | none => rw [e] at h; exact False.elim h
    | some b =>
      rw [e] at h
      intro b' g1 H1 l1 w1 eb
      have eb : truth w = some b' := eb
      rw [e] at eb
      cases eb
      refine k b H1 g1 s l1 w1 ?_
      cases b <;> exact h
  | exc c s => exact fun g1 H1 l1 w => h g1 H1 (l.trans l1) w
  | bad => exact h
theorem st_if {e : Expr} {a b : List Stmt} {c : C} {ca cb : Ss} {pos : Pos} (h : PT X e (tT M Φ c E)) (ha : PSs X a (tSt M (evss M Φ ca) E)) (hb : PSs X b (tSt M (evss M Φ cb) E)) : PS X (.If e a b pos) (tSt M (evs M Φ (.ife c ca cb)) E) := by
  refine (ps_if h ha hb).imp fun D σ H ⟨n, g, δ, s, l, w, so, h⟩ => ⟨g, n.H, δ, s, w, so, ?_⟩
  simp only [evS] at h
  refine post_test l h fun b H1 g1 s1 l1 w1 h1 => ?_
  cases b with
  | true => rw [if_pos rfl] at h1 ⊢; exact ⟨n, g1, δ, s1, l.trans l1, w1, so.later l1, h1⟩
  | false => rw [if_neg (by simp)] at h1 ⊢; exact ⟨n, g1, δ, s1, l.trans l1, w1, so.later l1, h1⟩
theorem st_for {tg iter : Expr} {body : List Stmt} {it : It} {tup : Bool} {is : List Nat} {cb : Ss} {pos : Pos} (hp : PassesOwn (model X.prog X.w) X.A X.env X.xe) (hc : X.calm = true) (hi : PI X tg iter (tI M Φ it E)) (hg : PG X tg (gOf M.K tup is)) (hb : PSs X body (tSt M (evss M Φ cb) E))
    (hs : ∀ x, foldedSetIterable iter X.env x = pure x) : PS X (.For tg iter body [] pos) (tSt M (evs M Φ (.for_ tup is it cb)) E) := by
  refine (ps_for hp hc hi hg hb hs).imp fun D σ H ⟨n, g, δ, s, l, w, so, h⟩ => ⟨g, n.H, δ, s, w, so, ?_⟩
  simp only [evS] at h
  refine (h.exp (Rel := fun g _ ds J => WalkD M g J ds) l).mono fun J H1 ⟨g1, ds, s1, l1, w1, wd, h1⟩ => ?_
  have W : Walk J ds.length (fun H' => ∃ g' s', Sub g1.F g'.F ∧ WOk M g' H' s') (fun i H' x H'' => J.yld i H' x H'') :=
    ⟨fun i H' hi ⟨g', s', sb, w'⟩ => wd.go i g' H' s' sb w' hi, fun H' ⟨g', s', sb, w'⟩ => wd.stop g' H' s' sb w', fun i H' x H'' _ _ y => y⟩
  -- the walk's own part of the heap
  have up : ∀ {g' : Gh} {H' : Hp}, Lx ⟨n.g, n.H, g1⟩ g' H' → Lx n g' H' := fun l' => ⟨l'.le, (l.trans l1).sb.trans l'.sb⟩
  refine for_it W (fun i σ H' => ∃ g' δ' s', Lx ⟨n.g, n.H, g1⟩ g' H' ∧ WOk M g' H' s' ∧ SOk M g' n.H H' σ δ' ∧ PostS M E n (forGo tup is (fun δ s => evSs M.gl Φ cb δ s) (ds.drop i) δ' s') D) ?_ ?_ ?_ ?_
  · exact ⟨g1, δ, s1, ⟨(l.trans l1).le, Sub.refl _⟩, w1, so.later l1, h1⟩
  · rintro i σ' H' _ ⟨g', δ', s', l', w', _⟩
    exact ⟨g', s', l'.sb, w'⟩
  · rintro i x σ' H' H'' hi ⟨g', δ', s', l', w', so', hp⟩ y
    obtain ⟨g2, d, l2, w2, e2, r2⟩ := wd.yld i g' H' s' x H'' l'.sb w' hi y
    have hdrop : ds.drop i = d :: ds.drop (i + 1) := by
      obtain ⟨hi', e3⟩ := List.getElem?_eq_some_iff.mp e2
      rw [List.drop_eq_getElem_cons hi', e3]
    rw [hdrop] at hp
    unfold forGo at hp
    cases e3 : setTg tup is d δ' with
    | none => rw [e3] at hp; exact False.elim hp
    | some δ2 =>
      rw [e3] at hp
      refine gOf_ok w2 (so'.later l2) e3 r2 fun σ2 so2 _ _ => ⟨⟨n.g, n.H, g1⟩, g2, δ2, s', l'.trans l2, w2, so2, ?_⟩
      simp only at hp
      show PostS M E _ (evSs M.gl Φ cb δ2 s') _
      cases er : evSs M.gl Φ cb δ2 s' with
      | nx δ3 s3 =>
        rw [er] at hp
        exact fun σ g H l w so => ⟨g, δ3, s3, l, w, so, hp⟩
      | rt v s3 =>
        rw [er] at hp
        exact fun v g H l w r => hp v g H (up l) w r
      | exc c s3 =>
        rw [er] at hp
        exact fun g H l w => hp g H (up l) w
      | bad => rw [er] at hp; exact hp
  · rintro σ' H' ⟨g', δ', s', l', w', so', hp⟩
    rw [List.drop_length] at hp
    exact hp σ' g' H' (up l') w' so'
/-! ### while -/
theorem wh_more (t : Env → Sto → Res W) (f : Env → Sto → RS) : ∀ (n : Nat) (δ : Env) (s : Sto) (r : RS), whGo t f n δ s = some r → whGo t f (n + 1) δ s = some r
  | 0, _, _, _, h => by cases h
  | n + 1, δ, s, r, h => by
    unfold whGo at h ⊢
    cases e : t δ s with
    | ok w s1 =>
      rw [e] at h
      simp only at h ⊢
      cases et : truth w with
      | none => rw [et] at h; exact h
      | some b =>
        rw [et] at h
        cases b with
        | false => exact h
        | true =>
          simp only at h ⊢
          cases er : f δ s1 with
          | nx δ2 s2 => rw [er] at h; exact wh_more t f n δ2 s2 r h
          | _ => rw [er] at h; exact h
    | _ => rw [e] at h; exact h
theorem wh_le {t : Env → Sto → Res W} {f : Env → Sto → RS} {n m : Nat} {δ : Env} {s : Sto} {r : RS} (h : whGo t f n δ s = some r) (hm : n ≤ m) : whGo t f m δ s = some r := by
  induction hm with
  | refl => exact h
  | step _ ih => exact wh_more t f _ δ s r ih
theorem whS_eq {t : Env → Sto → Res W} {f : Env → Sto → RS} {n : Nat} {δ : Env} {s : Sto} {r : RS} (h : whGo t f n δ s = some r) : whS t f δ s = r := by
  unfold whS
  have hx : ∃ n r, whGo t f n δ s = some r := ⟨n, r, h⟩
  rw [dif_pos hx]
  have h2 := hx.choose_spec.choose_spec
  have h3 := wh_le h (Nat.le_max_left n hx.choose)
  have h4 := wh_le h2 (Nat.le_max_right n hx.choose)
  rw [h3] at h4
  exact (Option.some.inj h4).symm
theorem whS_go {t : Env → Sto → Res W} {f : Env → Sto → RS} {δ : Env} {s : Sto} (h : whS t f δ s ≠ .bad) : ∃ n, whGo t f n δ s = some (whS t f δ s) := by
  unfold whS at h ⊢
  by_cases hx : ∃ n r, whGo t f n δ s = some r
  · rw [dif_pos hx]
    exact ⟨hx.choose, hx.choose_spec.choose_spec⟩
  · rw [dif_neg hx] at h
    exact absurd rfl h
theorem st_while {e : Expr} {body : List Stmt} {c : C} {cb : Ss} {pos : Pos} (hp : PassesOwn (model X.prog X.w) X.A X.env X.xe) (ht : PT X e (tT M Φ c E)) (hb : PSs X body (tSt M (evss M Φ cb) E)) : PS X (.While e body [] pos) (tSt M (evs M Φ (.while_ c cb)) E) := by
  refine (ps_while hp ht hb).imp fun D σ H ⟨n, g, δ, s, l, w, so, h⟩ => ?_
  simp only [evS] at h
  have hnb : whS (fun δ s => evC M.gl Φ c δ s) (fun δ s => evSs M.gl Φ cb δ s) δ s ≠ .bad := fun z => by rw [z] at h; exact h
  obtain ⟨m, hm⟩ := whS_go hnb
  refine ⟨fun m σ H => ∃ g δ s r, Lx n g H ∧ WOk M g H s ∧ SOk M g n.H H σ δ ∧ whGo (fun δ s => evC M.gl Φ c δ s) (fun δ s => evSs M.gl Φ cb δ s) m δ s = some r ∧ PostS M E n r D, ⟨m, g, δ, s, _, l, w, so, hm, h⟩, ?_⟩
  rintro m σ H ⟨g, δ, s, r, l, w, so, hm, h⟩
  cases m with
  | zero => cases hm
  | succ m =>
    unfold whGo at hm
    refine ⟨g, n.H, δ, s, w, so, ?_⟩
    cases e : evC M.gl Φ c δ s with
    | exc c' s1 =>
      rw [e] at hm
      cases hm
      exact fun g1 H1 l1 w1 => h g1 H1 (l.trans l1) w1
    | bad =>
      rw [e] at hm
      cases hm
      exact h
    | ok x s1 =>
      rw [e] at hm
      simp only at hm
      show PostG _ _ _ (if (truth x).isSome = true then Res.ok x s1 else .bad) _ _ _
      cases et : truth x with
      | none => rw [et] at hm; cases hm; exact h
      | some b =>
        rw [et] at hm
        intro b' g1 H1 l1 w1 eb
        have eb : truth x = some b' := eb
        rw [et] at eb
        cases eb
        cases b with
        | false =>
          cases hm
          rw [if_neg (by simp)]
          exact h σ g1 H1 (l.trans l1) w1 (so.later l1)
        | true =>
          rw [if_pos rfl]
          simp only at hm
          refine ⟨fun σ H => ∃ g δ s r, Lx n g H ∧ WOk M g H s ∧ SOk M g n.H H σ δ ∧ whGo (fun δ s => evC M.gl Φ c δ s) (fun δ s => evSs M.gl Φ cb δ s) m δ s = some r ∧ PostS M E n r D, fun σ' H' h => ⟨m, Nat.lt_succ_self m, h⟩, n, g1, δ, s1, l.trans l1, w1, so.later l1, ?_⟩
          show PostS M E _ (evSs M.gl Φ cb δ s1) _
          cases er : evSs M.gl Φ cb δ s1 with
          | nx δ2 s2 => rw [er] at hm; exact fun σ g H l w so => ⟨g, δ2, s2, r, l, w, so, hm, h⟩
          | rt v s2 => rw [er] at hm; cases hm; exact h
          | exc c' s2 => rw [er] at hm; cases hm; exact h
          | bad => rw [er] at hm; cases hm; exact h
end
end G
end
section
set_option Elab.async false
set_option linter.all false
set_option maxRecDepth 100000
set_option maxHeartbeats 1000000
/-! own lists written, several names at once, raise, the dice; a def's body keeps its promise -/
namespace G
open PySem PySem.Spec PyProof.Rows L2
section
variable {M : Mw} {n : En} {g : Gh} {H0 H : Hp} {s : Sto} {E : XK} {D : Ends} {Φ : Nat → Option Fn} {X : Cx} {σ : L2.St} {δ : Env} {x : Str} {pn apos cpos pos : Pos} {e ei : Expr} {c ci : C} {i : Nat}
theorem Lx.write {p : Addr} {o : HO} (l : Lx n g H) (h : n.H p = none) : Lx n g (upd H p o) := ⟨l.le.write h, l.sb⟩
theorem few_of {cpos : Pos} {env : PySem.Env} (h : noStar e = true) : ((backTo cpos (starEach [e] env)).all (fun x => !x.1) && (backToKw cpos (keywordEach [] env)).all (fun x => x.1.isSome)
      && decide (([e] : List Expr).length + ([] : List Keyword).length + (if ([] : List Keyword).isEmpty then 0 else 1) < 30)) = true := by
  rw [star_one h]; rfl
theorem swaps_call {f : Expr} {es : List Expr} {kw : List Keyword} {p : Pos} {t : Option Expr} {l : Nat} {env : PySem.Env} : swapsWith (.Call f es kw p) t l env = pure false := rfl
theorem st_app (hK : X.K = M.K) (hN : X.N[i]? = some x) (hv : Vis X.env.scope x) (hd : (x == ("__debug__" : Str)) = false) (hcd : (x == ("__classdict__" : Str)) = false) (hl : (apos.endLine == cpos.line) = true) (h1 : noStar e = true) (ha : PE X e (tC M Φ c E)) :
    PS X (.Expr (.Call (.Attribute (.Name x pn) "append" apos) [e] [] cpos) pos) (tSt M (evs M Φ (.app i c)) E) := by
  refine (ps_expr (pe_bm PySem.F.plainAttrs_list PySem.F.slot_list_append PySem.F.type_list_append mt_append (pe_var hN hv hd hcd) (pa_cons ha pa_nil (star_of h1)) rfl (few_of h1) hl (star_of h1) rfl) swaps_call).imp
    fun D σ H ⟨n, g, δ, s, l, w, so, h⟩ => ?_
  simp only [evS] at h
  cases hi : δ[i]? with
  | none => rw [hi] at h; exact False.elim h
  | some sl =>
  cases sl with
  | no => rw [hi] at h; exact False.elim h
  | w w => rw [hi] at h; exact False.elim h
  | ownd w => rw [hi] at h; exact False.elim h
  | own ds =>
  rw [hi] at h
  obtain ⟨p, vs, e1, e2, e3, e4, e5, e6, e7⟩ := so.own i ds hi
  refine ⟨.ref p, e1, .inl ⟨rfl, vs, SqL.of e2⟩, g, n.H, δ, s, w, so, (h.exp l).mono fun v H1 ⟨g1, y, s1, l1, w1, r1, h1⟩ => ?_⟩
  cases y with
  | d d =>
    simp only at h1
    by_cases hlen : ds.length < lim
    · rw [if_pos hlen] at h1
      have q1 := l1.keep _ _ e2 e5 e6 not_tbl_lst
      have q2 := l1.noF e3 (by rw [e2]; simp)
      refine ⟨p, vs, v, rfl, rfl, q1, by rw [e7.length, ← lim_eq]; exact hlen, ?_⟩
      have so1 := so.later l1
      exact h1 σ g1 _ ((l.trans l1).write e4) (w1.write q1 q2 (by rw [l1.da]; exact e5)) (so1.write hi e1 q1 ((e7.mono l1.fr).snoc r1))
    · rw [if_neg hlen] at h1; exact False.elim h1
  | _ => exact False.elim h1
theorem swaps_sub {o ix : Expr} {p : Pos} {l : Nat} {env : PySem.Env} : swapsWithSole [.Subscript o ix p] e l env = pure false := by cases e <;> rfl
theorem swapped_sub {o ix : Expr} {p : Pos} {env : PySem.Env} : swappedStores [.Subscript o ix p] e env = pure none := by cases e <;> rfl
/-- no slice -/
def noSlice : Expr → Bool
  | .Slice _ _ _ _ => false
  | _ => true
theorem assign_ix {o ix : Expr} {p : Pos} {env : PySem.Env} (h : noSlice ix = true) : ∀ v, assign (.Subscript o ix p) env v = (do
      let ov ← holding [v] (eval o env)
      let iv ← holding [v, ov] (eval ix env)
      standAt p
      holding [v, ov, iv] (setItem ov iv v)
      release [v, ov, iv] []) := by
  intro v
  cases ix <;> first | rfl | cases h
theorem st_seti {ipos : Pos} (hns : noSlice ei = true) (hN : X.N[i]? = some x) (hv : Vis X.env.scope x) (hd : (x == ("__debug__" : Str)) = false) (hcd : (x == ("__classdict__" : Str)) = false) (ha : PE X e (tC M Φ c E)) (hb : PE X ei (tC M Φ ci E)) :
    PS X (.Assign [.Subscript (.Name x pn) ei ipos] e pos) (tSt M (evs M Φ (.seti i ci c)) E) := by
  refine (ps_asg ha (pg_sub (pe_var hN hv hd hcd) hb set_list (assign_ix hns)) swaps_sub swapped_sub rfl).imp fun D σ H ⟨n, g, δ, s, l, w, so, h⟩ => ?_
  simp only [evS] at h
  refine ⟨g, n.H, δ, s, w, so, (h.exp l).mono fun v H1 ⟨g1, y, s1, l1, w1, r1, h1⟩ => ?_⟩
  cases y with
  | d d =>
    cases hi : δ[i]? with
    | none => rw [hi] at h1; exact False.elim h1
    | some sl =>
      rw [hi] at h1
      cases sl with
      | own ds =>
        have so1 := so.later l1
        obtain ⟨p, vs, e1, e2, e3, e4, e5, e6, e7⟩ := so1.own i ds hi
        refine ⟨.ref p, e1, g1, n.H, δ, s1, w1, so1, (h1.exp (l.trans l1)).mono fun u H2 ⟨g2, z, s2, l2, w2, r2, h2⟩ => ?_⟩
        cases z with
        | d z =>
          cases z with
          | int k =>
            simp only at h2
            cases hj : place ds.length k with
            | none => rw [hj] at h2; exact False.elim h2
            | some j =>
              rw [hj] at h2
              have q1 := l2.keep _ _ e2 e5 e6 not_tbl_lst
              have q2 := l2.noF e3 (by rw [e2]; simp)
              exact ⟨p, vs, k, j, rfl, r2, q1, by rw [e7.length, ← place_eq]; exact hj, h2 σ g2 _ (((l.trans l1).trans l2).write e4) (w2.write q1 q2 (by rw [l2.da]; exact e5)) ((so1.later l2).write hi e1 q1 ((e7.mono l2.fr).set (Rep.mono l2.fr d r1) j))⟩
          | _ => exact False.elim h2
        | _ => exact False.elim h2
      | _ => exact False.elim h1
  | _ => exact False.elim h1
/-- an own dict's entry -/
theorem st_setd {ipos : Pos} (hu : X.A.units + 1 < cLine) (hP : X.prog = M.P) (hw : X.w = M.w) (hK : X.K = M.K) (hns : noSlice ei = true) (hN : X.N[i]? = some x) (hv : Vis X.env.scope x) (hd : (x == ("__debug__" : Str)) = false) (hcd : (x == ("__classdict__" : Str)) = false) (ha : PE X e (tC M Φ c E)) (hb : PE X ei (tC M Φ ci E)) :
    PS X (.Assign [.Subscript (.Name x pn) ei ipos] e pos) (tSt M (evs M Φ (.setd i ci c)) E) := by
  refine (ps_asg ha (pg_sub (pe_var hN hv hd hcd) hb (set_dx hu) (assign_ix hns)) swaps_sub swapped_sub rfl).imp fun D σ H ⟨n, g, δ, s, l, w, so, h⟩ => ?_
  simp only [evS] at h
  refine ⟨g, n.H, δ, s, w, so, (h.exp l).mono fun v H1 ⟨g1, y, s1, l1, w1, r1, h1⟩ => ?_⟩
  cases y with
  | d d =>
    cases hi : δ[i]? with
    | none => rw [hi] at h1; exact False.elim h1
    | some sl =>
      rw [hi] at h1
      cases sl with
      | ownd kvs =>
        have so1 := so.later l1
        obtain ⟨p, xs, e1, e2, e3, e4, e5, e6, e7⟩ := so1.ownd i kvs hi
        refine ⟨.ref p, e1, g1, n.H, δ, s1, w1, so1, (h1.exp (l.trans l1)).mono fun u H2 ⟨g2, z, s2, l2, w2, r2, h2⟩ => ?_⟩
        cases z with
        | d z =>
          simp only at h2
          by_cases hk : (keyT z && decide (kvs.length < lim)) = true
          · rw [if_pos hk] at h2
            rw [Bool.and_eq_true, decide_eq_true_eq] at hk
            obtain ⟨is, ks, b, rfl, q0, rfl, qb⟩ := keyT_rep hk.1 (show Rep M.K g2.F z u from r2)
            have q1 := l2.keep _ _ e2 e5 e6 not_tbl_dT
            have q2 := l2.noF e3 (by rw [e2]; simp)
            have e7' := e7.mono l2.fr
            refine ⟨p, b, xs, ks, rfl, rfl, by rw [hP, hw]; exact q1, by rw [hK]; exact e7'.keys.up w2, by rw [hK]; exact qb.mono' w2, by rw [e7.len, ← lim_eq]; exact hk.2, fun vv hvv => ?_⟩
            rw [hP, hw]
            exact h2 σ g2 _ (((l.trans l1).trans l2).write e4) (w2.writeX q1 q2 (by rw [l2.da]; exact e5)) ((so1.later l2).writeX hi e1 q1 (RepT.put q0 qb (Rep.mono l2.fr d r1) hvv e7'))
          · rw [if_neg hk] at h2; exact False.elim h2
        | _ => exact False.elim h2
      | _ => exact False.elim h1
  | _ => exact False.elim h1
/-- the dice's list -/
theorem st_dice {ipos : Pos} {k : Nat} {j : Nat} {p2 : Pos} (hk : k = 0 ∨ k = 1) (hN : X.N[i]? = some x) (hv : Vis X.env.scope x) (hd : (x == ("__debug__" : Str)) = false) (hcd : (x == ("__classdict__" : Str)) = false) (ha : PE X e (tC M Φ c E)) :
    PS X (.Assign [.Subscript (.Name x pn) (.Constant (.int k) j p2) ipos] e pos) (tSt M (evs M Φ (.setdice i k c)) E) := by
  refine (ps_asg ha (pg_sub (pe_var hN hv hd hcd) pe_int set_list (by intro _; rfl)) swaps_sub swapped_sub rfl).imp fun D σ H ⟨n, g, δ, s, l, w, so, h⟩ => ?_
  simp only [evS] at h
  refine ⟨g, n.H, δ, s, w, so, (h.exp l).mono fun v H1 ⟨g1, y, s1, l1, w1, r1, h1⟩ => ?_⟩
  have so1 := so.later l1
  cases y with
  | d d =>
    cases d with
    | int z =>
      split at h1
      · rename_i c0 m0 z' c' m' e1 e2 e3
        cases e1
        obtain ⟨v', q1, q2⟩ := so1.w i .dice e2
        have q2 : v' = .ref g1.da := q2
        obtain ⟨d1, d2⟩ := w1.dice _ _ e3
        have up : ∀ a b : Int, WOk M g1 (upd H1 g1.da (.lst [.int a, .int b])) { s1 with dice := some (a, b) } := fun a b => {
          sub := fun a u e => by
            have : a ≠ g1.da := fun z => by subst z; rw [d2] at e; cases e
            rw [upd_ne this]; exact w1.sub _ _ e
          dan := by rw [upd_same]; simp
          ban := by
            by_cases hb : g1.ba = g1.da
            · rw [hb, upd_same]; simp
            · rw [upd_ne hb]; exact w1.ban
          dice := fun c m e => by
            cases e
            exact ⟨upd_same, d2⟩
          book := w1.book
          tabs := tab_at w1.tabs d1
          ntab := w1.ntab }
        have lx : ∀ o, Lx n g1 (upd H1 g1.da o) := fun o => by
          have l' := l.trans l1
          refine ⟨⟨l'.le.fr, l'.le.new, fun a u e h1 h2 h3 => ?_, fun a e => ?_, l'.le.da, l'.le.ba⟩, l'.sb⟩
          · rw [upd_ne (by rw [l'.le.da]; exact h1)]
            exact l'.le.keep a u e h1 h2 h3
          · by_cases ha : a = g1.da
            · subst ha; rw [upd_same]; simp
            · rw [upd_ne ha]; exact l'.le.there a e
        have sx : ∀ o, SOk M g1 n.H (upd H1 g1.da o) σ δ := fun o => {
          len := so1.len
          w := so1.w
          own := fun j ds e => by
            obtain ⟨a, vs, t1, t2, t3, t4, t5, t6⟩ := so1.own j ds e
            exact ⟨a, vs, t1, by rw [upd_ne t5]; exact t2, t3, t4, t5, t6⟩
          ownd := fun j ds e => by
            obtain ⟨a, vs, t1, t2, t3, t4, t5, t6⟩ := so1.ownd j ds e
            exact ⟨a, vs, t1, by rw [upd_ne t5]; exact t2, t3, t4, t5, t6⟩
          apart := so1.apart }
        have r1 : v = .int z := r1
        subst r1 q2
        rcases hk with rfl | rfl
        · rw [if_pos rfl] at h1
          exact ⟨_, q1, g1.da, _, 0, 0, rfl, rfl, d1, rfl, h1 σ g1 _ (lx _) (up _ _) (sx _)⟩
        · rw [if_neg (by omega), if_pos rfl] at h1
          exact ⟨_, q1, g1.da, _, 1, 1, rfl, rfl, d1, rfl, h1 σ g1 _ (lx _) (up _ _) (sx _)⟩
      · exact False.elim h1
    | _ => exact False.elim h1
  | _ => exact False.elim h1
/-! ### raise -/
/-- X('m') makes an exception of the class c -/
def EOk (U : Wd) (x : Str) (c : Nat) : Prop := ∀ (X : Cx) (L : Nat) (E : XK), Fit U L E X → Gl X x → ∀ (p p2 pos : Pos) (m : Str) (j : Nat), L2N.PMk X (.Call (.Name x p) [.Constant (.str m) j p2] [] pos) (fun _ H Q => Q (.ref (U.M.ec c)) none H)
theorem st_raise {U : Wd} {L : Nat} {k : Nat} {p p2 : Pos} {m : Str} {j : Nat} {pos2 : Pos} (F : FitS U L E X) (hx : EOk U x k) (hg : Gl X x) : PS X (.Raise (some (.Call (.Name x p) [.Constant (.str m) j p2] [] pos)) none pos2) (tSt U.M (evs U.M Φ (.raise k)) E) := by
  refine (L2N.ps_raise F.calm F.takes (hx X L E F.toFit hg p p2 pos m j)).imp fun D σ H ⟨n, g, δ, s, l, w, so, h⟩ => ?_
  simp only [evS] at h
  exact h g H l w
/-! ### a def -/
theorem fok_of {U : Wd} {k : Nat} {y qual : Str} {params : Arguments} {body : List Stmt} {scope : Scope} {f : Addr} {fd : FuncData} {N ps : List Str} {code : Code} (F : FunD U.M.K y qual params body scope [] [] f fd) (S : FnScope N ps scope)
    (hm : U.mg x = some (.ref f)) (hb : Binds U.M.K fd ps []) (hn : ps.length = code.pars) (hN : N.length = code.names) (hle : ps.length ≤ N.length)
    (h : ∀ (X : Cx) (E : XK), FitS U k E X → X.N = N → X.env.scope = scope → (∀ x, X.fn x = true) → X.env.qual = qual ++ ".<locals>." → (∃ c, X.env.code = .ref c ∧ fd.code = .ref c) → PSs X body (tSt U.M (evss U.M Φ code.body) E)) : FOk U (k + 1) x code.pars (evF U.M.gl Φ code) := by
  have kp := F.kp
  obtain ⟨oc, od, dV, kV, doc, pm, an, cdv, ct, osl, rfl, lk, hcd, _, _⟩ := F.ex
  have hcr : ∃ c, cdv = .ref c := by
    cases cdv with
    | ref c => exact ⟨c, rfl⟩
    | _ => cases hcd
  refine ⟨⟨f, _, ps, ?_, hm, kp, hb, hn⟩, fun ws s hl => by unfold evF; rw [if_neg hl]⟩
  refine fn_of lk hcd S (fun vs H Q E ⟨g, s, ws, _, r, hl, _⟩ => by rw [RepWs.length r, hl, hn]) fun A outer s H vs Q E hr ⟨g, st, ws, w, r, hl, hp⟩ => ?_
  have tk : L2N.Takes (cxOf (L2N.CX U.P U.w) U.P U.w U.M.K U.mg U.base N qual scope f cdv A outer s H E) (fun c d _ H => E c d H) := L2N.takes_of rfl rfl rfl rfl
  refine ⟨_, h (cxOf (L2N.CX U.P U.w) U.P U.w U.M.K U.mg U.base N qual scope f cdv A outer s H E) E ⟨⟨rfl, rfl, rfl, rfl, rfl, hr, rfl, S.nd, L2N.passes_call tk (fun _ _ _ _ h => h), S.kind⟩, passes_of rfl, tk⟩ rfl rfl (fun _ => rfl) rfl (by obtain ⟨c, e⟩ := hcr; exact ⟨c, e, e⟩), ?_⟩
  have hvl : vs.length = code.pars := by rw [RepWs.length r, hl]
  refine ⟨⟨g, H, g⟩, g, ws.map Slot.w ++ List.replicate (code.names - code.pars) Slot.no, st, ⟨Le.refl _ _, Sub.refl _⟩, w, ?_, ?_⟩
  · have get : ∀ (j : Nat) (sl : Slot), (ws.map Slot.w ++ List.replicate (code.names - code.pars) Slot.no)[j]? = some sl → (∃ w, sl = .w w ∧ ws[j]? = some w) ∨ sl = .no := fun j sl e => by
      by_cases hj : j < ws.length
      · rw [List.getElem?_append_left (by simpa using hj), List.getElem?_map] at e
        cases e2 : ws[j]? with
        | none => rw [e2] at e; cases e
        | some w => rw [e2] at e; cases e; exact .inl ⟨w, rfl, rfl⟩
      · rw [List.getElem?_append_right (by simpa using hj)] at e
        have := List.mem_of_getElem? e
        rw [List.mem_replicate] at this
        exact .inr this.2
    have rget : ∀ {ws : List W} {vs : List V} {j : Nat} {w : W}, RepWs U.M g ws vs → ws[j]? = some w → ∃ v, vs[j]? = some v ∧ RepW U.M g w v := by
      intro ws
      induction ws with
      | nil => intro vs j w _ e; simp at e
      | cons w0 ws ih =>
        intro vs j w r e
        obtain ⟨v, t, rfl, q, r⟩ := r
        cases j with
        | zero => simp at e; subst e; exact ⟨v, rfl, q⟩
        | succ j =>
          have e' : ws[j]? = some w := by simpa using e
          obtain ⟨u, q1, q2⟩ := ih r e'
          exact ⟨u, by simpa using q1, q2⟩
    constructor
    · show _ = (start N vs).length
      unfold L2.start
      simp only [List.length_append, List.length_map, List.length_replicate]
      omega
    · intro j w' e
      rcases get j _ e with ⟨w2, e1, e2⟩ | e1
      · cases e1
        obtain ⟨v, q1, q2⟩ := rget r e2
        refine ⟨v, ?_, q2⟩
        show (start N vs)[j]? = _
        unfold L2.start
        have hj := (List.getElem?_eq_some_iff.mp q1).1
        rw [List.getElem?_append_left (by simpa using hj), List.getElem?_map, q1]
        rfl
      · cases e1
    · intro j ds e
      rcases get j _ e with ⟨w2, e1, e2⟩ | e1 <;> cases e1
    · intro j ds e
      rcases get j _ e with ⟨w2, e1, e2⟩ | e1 <;> cases e1
    · intro j k a _ o
      cases e : (ws.map Slot.w ++ List.replicate (code.names - code.pars) Slot.no)[j]? with
      | none => rw [e] at o; cases o
      | some sl =>
        rw [e] at o
        rcases get j _ e with ⟨w2, e1, e2⟩ | e1
        · subst e1; cases o
        · subst e1; cases o
  · unfold evF at hp
    rw [if_pos hl] at hp
    show PostS U.M E _ (evSs U.M.gl Φ code.body _ st) _
    cases er : evSs U.M.gl Φ code.body (ws.map Slot.w ++ List.replicate (code.names - code.pars) Slot.no) st with
    | nx δ s2 => rw [er] at hp; exact fun σ g' H' l w so => hp .non g' H' l.le w rfl
    | rt w s2 => rw [er] at hp; exact fun v g' H' l w r => hp v g' H' l.le w r
    | exc c s2 => rw [er] at hp; exact fun g' H' l w => hp g' H' l.le w
    | bad => rw [er] at hp; exact hp
end
end G
end
section
set_option Elab.async false
set_option linter.all false
set_option maxRecDepth 100000
set_option maxHeartbeats 1000000
/-! targets by their names; several names at once -/
namespace G
open PySem PySem.Spec PyProof.Rows L2
/-- a name that may be stored, at its slot -/
structure StN (X : Cx) (i : Nat) (x : Str) : Prop where
  at_ : X.N[i]? = some x
  loc : Loc X.env.scope x
  fn : X.fn x = true ∨ X.env.scope.names.lookup x = some .local
section
variable {X : Cx} {M : Mw}
/-- names, one behind another -/
inductive Nms (X : Cx) : List Expr → List Nat → Prop
  | nil : Nms X [] []
  | cons {x : Str} {p : Pos} {i : Nat} {es : List Expr} {is : List Nat} (h : StN X i x) (t : Nms X es is) : Nms X (.Name x p :: es) (i :: is)
theorem Nms.pgs (hN : X.N.Nodup) : ∀ {es : List Expr} {is : List Nat}, Nms X es is → PGs X es (gEach is)
  | _, _, .nil => pgs_nil
  | _, _, .cons h t => pgs_cons (pg_name hN h.at_ h.loc h.fn) (t.pgs hN) rfl
theorem Nms.len : ∀ {es : List Expr} {is : List Nat}, Nms X es is → (assignEach es X.env).length = is.length
  | _, _, .nil => rfl
  | _, _, .cons h t => by
    show (_ :: assignEach _ X.env).length = _
    rw [List.length_cons, List.length_cons, t.len]
theorem Nms.idx : ∀ {es : List Expr} {is : List Nat}, Nms X es is → (assignEach es X.env).findIdx? (·.1) = none
  | _, _, .nil => rfl
  | _, _, .cons h t => by
    show ((false, _) :: assignEach _ X.env).findIdx? (·.1) = none
    rw [List.findIdx?_cons, t.idx]
    rfl
theorem pg_one (hK : X.K = M.K) (hN : X.N.Nodup) {i : Nat} {x : Str} {p : Pos} (h : StN X i x) : PG X (.Name x p) (gOf M.K false [i]) := pg_name hN h.at_ h.loc h.fn
theorem pg_all (hK : X.K = M.K) (hc : X.calm = true) (hN : X.N.Nodup) {es : List Expr} {is : List Nat} {k : Nat} {p : Pos} (h : Nms X es is) : PG X (.Tuple es k p) (gOf M.K true is) := by
  have := pg_tup (pos := p) (k := k) hc (h.pgs hN) h.len h.idx
  rw [hK] at this
  exact this
end
theorem plainIx_of {b : Expr} (h : noSlice b = true) : PlainIx b := by
  cases b <;> first | (intro _ _; rfl) | cases h
theorem fold_of {iter : Expr} (h : (match iter with | .Set .. => false | .SetComp .. => false | _ => true) = true) (env : PySem.Env) : ∀ x, foldedSetIterable iter env x = pure x := by
  cases iter <;> first | (intro _; rfl) | cases h
/-! ### codes whose value is a list -/
def isL : C → Bool
  | .lst _ => true
  | .lc _ _ _ _ _ => true
  | .lrg _ => true
  | .b1 .list _ => true
  | .b1 .sorted _ => true
  | _ => false
theorem isL_ok {gl : Nat → D} {Φ : Nat → Option Fn} {c : C} (h : isL c = true) : ∀ δ s w s', evC gl Φ c δ s = .ok w s' → ∃ ds, w = .d (.lst ds) := by
  intro δ s w s' e
  have b1 : ∀ (f : B1) (a : C), (f = .list ∨ f = .sorted) → evC gl Φ (.b1 f a) δ s = .ok w s' → ∃ ds, w = .d (.lst ds) := by
    intro f a hf e
    rw [evC] at e
    cases e1 : peek a δ s (evC gl Φ a δ s) with
    | ok x s1 =>
      rw [e1] at e
      simp only [Res.bind] at e
      rcases hf with rfl | rfl
      · cases x with
        | d x => cases x with
          | tup ds => cases e; exact ⟨_, rfl⟩
          | lst ds => cases e; exact ⟨_, rfl⟩
          | _ => cases e
        | dct kvs => cases e; exact ⟨_, rfl⟩
        | _ => cases e
      · cases x with
        | d x => cases x with
          | lst ds =>
            simp only [b1R] at e
            split at e
            · cases e; exact ⟨_, rfl⟩
            · cases e
          | _ => cases e
        | _ => cases e
    | exc c s1 => rw [e1] at e; cases e
    | bad => rw [e1] at e; cases e
  cases c with
  | lst es => exact ev_lst (gl := gl) e
  | lc own tup it cond elt => exact ev_lc (gl := gl) e
  | lrg a =>
    rw [evC] at e
    cases e1 : evC gl Φ a δ s with
    | exc c s1 => rw [e1] at e; cases e
    | bad => rw [e1] at e; cases e
    | ok x s1 =>
      rw [e1] at e
      cases x with
      | d d =>
        cases d with
        | int n =>
          simp only [Res.bind] at e
          split at e
          · cases e; exact ⟨_, rfl⟩
          · cases e
        | _ => cases e
      | _ => cases e
  | b1 f a => cases f <;> first | exact b1 _ a (.inl rfl) e | exact b1 _ a (.inr rfl) e | cases h
  | _ => cases h
/-! ### several names at once -/
section
variable {M : Mw} {n : En} {g : Gh} {H0 H : Hp} {E : XK} {Φ : Nat → Option Fn} {X : Cx}
def RelM (M : Mw) (Hs : Hp) (b : Bool) (g : Gh) (H : Hp) (w : W) (v : V) : Prop := if b = true then ∃ ds p xs, w = .d (.lst ds) ∧ v = .ref p ∧ Hs p = none ∧ g.F p = none ∧ H p = some (.lst xs) ∧ p ≠ g.da ∧ p ≠ g.ba ∧ Reps M.K g.F ds xs else RepW M g w v
def RelMs (M : Mw) (Hs : Hp) : List Bool → Gh → Hp → List W → List V → Prop
  | [], _, _, ws, vs => ws = [] ∧ vs = []
  | b :: bs, g, H, ws, vs => ∃ w ws' v vs', ws = w :: ws' ∧ vs = v :: vs' ∧ RelM M Hs b g H w v ∧ RelMs M Hs bs g H ws' vs' ∧ (b = true → ∀ j : Nat, bs[j]? = some true → vs'[j]? ≠ some v)
def tMs (M : Mw) (Φ : Nat → Option Fn) (bs : List Bool) (cs : Cs) (E : XK) : TA := fun σ H Q => ∃ g H0 δ s, WOk M g H s ∧ SOk M g H0 H σ δ ∧ PostG M E (RelMs M H bs) (evWs M.gl Φ cs δ s) g H Q
theorem RelMs.fresh {Hs : Hp} : ∀ {bs : List Bool} {g : Gh} {H : Hp} {ws : List W} {vs : List V}, RelMs M Hs bs g H ws vs → ∀ (j : Nat) (v : V), bs[j]? = some true → vs[j]? = some v → ∃ p, v = V.ref p ∧ Hs p = none
  | [], _, _, _, _, h, j, v, e1, _ => by simp at e1
  | b :: bs, _, _, _, _, h, 0, v, e1, e2 => by
    obtain ⟨w, ws', v', vs', rfl, rfl, r, _, _⟩ := h
    have : b = true := by simpa using e1
    subst this
    have : v' = v := by simpa using e2
    subst this
    unfold RelM at r
    rw [if_pos rfl] at r
    obtain ⟨ds, p, xs, _, e, q, _⟩ := r
    exact ⟨p, e, q⟩
  | b :: bs, _, _, _, _, h, j + 1, v, e1, e2 => by
    obtain ⟨w, ws', v', vs', rfl, rfl, _, t, _⟩ := h
    exact RelMs.fresh t j v (by simpa using e1) (by simpa using e2)
theorem RelMs.start {Hs Hs' : Hp} (h : ∀ p, Hs p = none → Hs' p = none) : ∀ {bs : List Bool} {g : Gh} {H : Hp} {ws : List W} {vs : List V}, RelMs M Hs bs g H ws vs → RelMs M Hs' bs g H ws vs
  | [], _, _, _, _, r => r
  | b :: bs, _, _, _, _, r => by
    obtain ⟨w, ws', v', vs', e1, e2, r, t, a⟩ := r
    refine ⟨w, ws', v', vs', e1, e2, ?_, RelMs.start h t, a⟩
    unfold RelM at r ⊢
    cases b with
    | false => exact r
    | true =>
      rw [if_pos rfl] at r ⊢
      obtain ⟨ds, p, xs, q1, q2, q3, q4⟩ := r
      exact ⟨ds, p, xs, q1, q2, h p q3, q4⟩
theorem m_nil : PA X [] (tMs M Φ [] .nil E) := pa_nil.imp fun σ H Q ⟨g, H0, δ, s, w, so, h⟩ => by
  rw [evWs] at h
  exact h [] g H (Le.refl _ _) w ⟨rfl, rfl⟩
theorem m_cons0 {e : Expr} {es : List Expr} {c : C} {cs : Cs} {bs : List Bool} (ha : PE X e (tC M Φ c E)) (hs : PA X es (tMs M Φ bs cs E)) (h1 : noStar e = true) : PA X (e :: es) (tMs M Φ (false :: bs) (.cons c cs) E) := by
  refine (pa_cons ha hs (star_of h1)).imp fun σ H Q ⟨g, H0, δ, s, w, so, h⟩ => ?_
  rw [evWs] at h
  refine tC.bind w so h fun v H1 g1 x s1 l1 w1 so1 r1 h1 => ⟨g1, H0, δ, s1, w1, so1, h1.bind.mono fun vs H2 ⟨g2, ws, s2, l2, w2, r2, h2⟩ => ?_⟩
  refine h2 (v :: vs) g2 H2 (Le.refl _ _) w2 ⟨x, ws, v, vs, rfl, rfl, ?_, r2.start fun p hp => l1.free_ hp, by simp⟩
  show RelM M H false g2 H2 x v
  unfold RelM
  rw [if_neg (by simp)]
  exact r1.mono l2
theorem m_cons1 {e : Expr} {es : List Expr} {c : C} {cs : Cs} {bs : List Bool} (hl : isL c = true) (ha : PE X e (tF M Φ c E)) (hs : PA X es (tMs M Φ bs cs E)) (h1 : noStar e = true) : PA X (e :: es) (tMs M Φ (true :: bs) (.cons c cs) E) := by
  refine (pa_cons ha hs (star_of h1)).imp fun σ H Q ⟨g, H0, δ, s, w, so, h⟩ => ?_
  rw [evWs] at h
  refine ⟨g, H0, δ, s, w, so, ?_⟩
  cases e1 : evC M.gl Φ c δ s with
  | exc c s1 => rw [e1] at h; exact h
  | bad => rw [e1] at h; exact h
  | ok x s1 =>
    rw [e1] at h
    obtain ⟨ds, rfl⟩ := isL_ok hl δ s x s1 e1
    intro p vs g1 H1 l1 w1 q1 q2 q3 q4
    have h := h.later l1
    refine ⟨g1, H0, δ, s1, w1, so.later l1, (show PostG M E (RelMs M H (true :: bs)) ((evWs M.gl Φ cs δ s1).bind fun xs s => .ok (W.d (.lst ds) :: xs) s) g1 H1 Q from h).bind.mono fun us H2 ⟨g2, ws, s2, l2, w2, r2, h2⟩ => ?_⟩
    have nda : p ≠ g1.da := by rw [l1.da]; exact ne_da w q1
    have nba : p ≠ g1.ba := by rw [l1.ba]; exact ne_ba w q1
    refine h2 (.ref p :: us) g2 H2 (Le.refl _ _) w2 ⟨_, ws, .ref p, us, rfl, rfl, ?_, r2.start fun p hp => l1.free_ hp, fun _ j e2 e3 => ?_⟩
    · show RelM M H true g2 H2 _ _
      unfold RelM
      rw [if_pos rfl]
      exact ⟨ds, p, vs, rfl, rfl, q1, l2.noF q2 (by rw [q3]; simp), l2.keep _ _ q3 nda nba not_tbl_lst, by rw [l2.da]; exact nda, by rw [l2.ba]; exact nba, q4.mono l2.fr⟩
    · obtain ⟨p', e4, e5⟩ := r2.fresh j _ e2 e3
      cases e4
      rw [q3] at e5; cases e5
/-- each name set, own ones too -/
theorem par_set {H1 : Hp} {Hs : Hp} {g1 : Gh} {Q : L2.St → Hp → Prop} (hs0 : ∀ p, Hs p = none → H0 p = none) : ∀ (is : List (Nat × Bool)) (ws : List W) (vs : List V) {σ : L2.St} {δ δ' : Env}, SOk M g1 H0 H1 σ δ → setPar is ws δ = some δ' → RelMs M Hs (is.map (·.2)) g1 H1 ws vs →
    (∀ (j : Nat) (a : Addr) (k : Nat), isOwn δ[j]? = true → σ[j]? = some (some (V.ref a)) → (is.map (·.2))[k]? = some true → vs[k]? ≠ some (V.ref a)) → (∀ σ', SOk M g1 H0 H1 σ' δ' → Q σ' H1) → gEach (is.map (·.1)) vs σ H1 Q
  | [], [], vs, σ, δ, δ', so, e, r, ap, k => by
    cases e
    exact ⟨r.2, k σ so⟩
  | [], _ :: _, _, _, _, _, _, e, _, _, _ => by cases e
  | (i, b) :: is, [], _, _, _, _, _, e, _, _, _ => by cases b <;> cases e
  | (i, b) :: is, w :: ws, vs, σ, δ, δ', so, e, r, ap, k => by
    obtain ⟨w', ws', v, vs', e1, rfl, r1, r2, r3⟩ := r
    cases e1
    refine ⟨v, vs', rfl, ?_⟩
    show gEach (is.map (·.1)) vs' (σ.set i (some v)) H1 Q
    have ap' : ∀ (j : Nat) (a : Addr) (k : Nat), j ≠ i → isOwn δ[j]? = true → σ[j]? = some (some (V.ref a)) → (is.map (·.2))[k]? = some true → vs'[k]? ≠ some (V.ref a) := fun j a k _ h1 h2 h3 => by
      have := ap j a (k + 1) h1 h2 (by simpa using h3)
      simpa using this
    cases b with
    | false =>
      unfold RelM at r1
      rw [if_neg (by simp)] at r1
      unfold setPar at e
      refine par_set hs0 is ws vs' (so.setW r1) e r2 (fun j a k h1 h2 h3 => ?_) k
      rw [get_set] at h1 h2
      by_cases hj : i = j ∧ i < δ.length
      · rw [if_pos hj] at h1; cases h1
      · rw [if_neg hj] at h1
        rw [so.len] at hj
        rw [if_neg hj] at h2
        by_cases hij : j = i
        · have h4 : ¬ i < σ.length := fun z => hj ⟨hij.symm, z⟩
          rw [List.getElem?_eq_none (by omega)] at h2
          cases h2
        · exact ap' j a k hij h1 h2 h3
    | true =>
      unfold RelM at r1
      rw [if_pos rfl] at r1
      obtain ⟨ds, p, xs, rfl, rfl, q1, q2, q3, q4, q5, q6⟩ := r1
      unfold setPar at e
      simp only [ownOf] at e
      refine par_set hs0 is ws vs' (so.putOwn q3 q2 (hs0 p q1) q4 q5 q6 fun j hj o z => ?_) e r2 (fun j a k h1 h2 h3 => ?_) k
      · have := ap j p 0 o z (by simp)
        simp at this
      · rw [get_set] at h1 h2
        by_cases hj : i = j ∧ i < δ.length
        · rw [so.len] at hj
          rw [if_pos hj] at h2
          cases h2
          exact r3 rfl k h3
        · rw [if_neg hj] at h1
          rw [so.len] at hj
          rw [if_neg hj] at h2
          by_cases hij : j = i
          · have h4 : ¬ i < σ.length := fun z => hj ⟨hij.symm, z⟩
            rw [List.getElem?_eq_none (by omega)] at h2
            cases h2
          · exact ap' j a k hij h1 h2 h3
theorem par_apart {g : Gh} {H : Hp} {σ : L2.St} {δ : Env} {is : List (Nat × Bool)} {g2 : Gh} {H2 : Hp} {ws : List W} {vs : List V} (so : SOk M g H0 H σ δ) (r : RelMs M H (is.map (·.2)) g2 H2 ws vs) :
    ∀ (j : Nat) (a : Addr) (k : Nat), isOwn δ[j]? = true → σ[j]? = some (some (V.ref a)) → (is.map (·.2))[k]? = some true → vs[k]? ≠ some (V.ref a) := fun j a k h1 h2 h3 h4 => by
  obtain ⟨p, e1, e2⟩ := r.fresh k _ h3 h4
  cases e1
  exact so.taken e2 h1 h2
theorem RelMs.len {Hs : Hp} : ∀ {bs : List Bool} {g : Gh} {H : Hp} {ws : List W} {vs : List V}, RelMs M Hs bs g H ws vs → vs.length = bs.length
  | [], _, _, _, _, h => by rw [h.2]; rfl
  | b :: bs, _, _, _, _, h => by
    obtain ⟨w, ws', v', vs', rfl, rfl, _, t, _⟩ := h
    rw [List.length_cons, List.length_cons, t.len]
/-- the tuple is made, then it is taken apart -/
theorem st_par {ts es : List Expr} {is : List (Nat × Bool)} {cs : Cs} {kt k2 : Nat} {pt p2 pos : Pos} (hc : X.calm = true) (hN : X.N.Nodup) (hn : Nms X ts (is.map (·.1))) (hlim : is.length ≤ lim) (ha : PA X es (tMs M Φ (is.map (·.2)) cs E))
    (hw : swappedStores [.Tuple ts kt pt] (.Tuple es k2 p2) X.env = pure none) : PS X (.Assign [.Tuple ts kt pt] (.Tuple es k2 p2) pos) (tSt M (evs M Φ (.par is cs)) E) := by
  refine (ps_asg (pe_tup ha) (pg_tup hc (hn.pgs hN) hn.len hn.idx) rfl hw rfl).imp fun D σ H ⟨n, g, δ, s, l, w, so, h⟩ => ?_
  simp only [evS] at h
  refine ⟨g, n.H, δ, s, w, so, (h.exp l).mono fun vs H1 ⟨g1, ws, s1, l1, w1, r1, h1⟩ => ?_⟩
  have hlen := r1.len
  rw [List.length_map] at hlen
  refine ⟨by rw [hlen, ← lim_eq]; exact hlim, fun T hT => ?_⟩
  cases e : setPar is ws δ with
  | none => rw [e] at h1; exact False.elim h1
  | some δ' =>
    rw [e] at h1
    have l2 : Le g1 H1 g1 (upd H1 T (.tup vs)) := Le.fresh hT
    refine ⟨T, vs, rfl, .inl (.inl upd_same), by rw [hlen, List.length_map], ?_⟩
    have ap := par_apart so r1
    have r2 : RelMs M H (is.map (·.2)) g1 (upd H1 T (.tup vs)) ws vs := by
      have up : ∀ {bs : List Bool} {ws : List W} {vs' : List V}, RelMs M H bs g1 H1 ws vs' → RelMs M H bs g1 (upd H1 T (.tup vs)) ws vs' := by
        intro bs
        induction bs with
        | nil => intro ws vs' r; exact r
        | cons b bs ih =>
          intro ws vs' r
          obtain ⟨w, ws', v', vs2, e1, e2, r, t, a⟩ := r
          refine ⟨w, ws', v', vs2, e1, e2, ?_, ih t, a⟩
          unfold RelM at r ⊢
          cases b with
          | false => exact r
          | true =>
            rw [if_pos rfl] at r ⊢
            obtain ⟨ds, p, xs, q1, q2, q3, q4, q5, q6⟩ := r
            exact ⟨ds, p, xs, q1, q2, q3, q4, by rw [upd_ne (ne_of_none q5 hT)]; exact q5, q6⟩
      exact up r1
    exact par_set (fun p hp => l.free_ hp) is ws vs ((so.later l1).later l2) e r2 ap fun σ' so' => h1 σ' g1 _ ((l.trans l1).trans l2) (w1.fresh hT) so'
/-- two local names: stored from the right -/
theorem st_par2 {i j : Nat} {b1 b2 : Bool} {x y : Str} {ea eb : Expr} {cs : Cs} {kt k2 : Nat} {px py pt p2 pos : Pos} (hc : X.calm = true) (hN : X.N.Nodup) (hi : X.N[i]? = some x) (hj : X.N[j]? = some y) (hij : i ≠ j)
    (hx : X.env.scope.names.lookup x = some .local) (hy : X.env.scope.names.lookup y = some .local) (ha : PA X [ea, eb] (tMs M Φ [b1, b2] cs E))
    (hw : swappedStores [.Tuple [.Name x px, .Name y py] kt pt] (.Tuple [ea, eb] k2 p2) X.env = pure (some [x, y])) :
    PS X (.Assign [.Tuple [.Name x px, .Name y py] kt pt] (.Tuple [ea, eb] k2 p2) pos) (tSt M (evs M Φ (.par [(i, b1), (j, b2)] cs)) E) := by
  refine (ps_par hc hN hi hj hij hx hy ha hw rfl).imp fun D σ H ⟨n, g, δ, s, l, w, so, h⟩ => ?_
  simp only [evS] at h
  refine ⟨g, n.H, δ, s, w, so, (h.exp l).mono fun vs H1 ⟨g1, ws, s1, l1, w1, r1, h1⟩ => ?_⟩
  cases e : setPar [(i, b1), (j, b2)] ws δ with
  | none => rw [e] at h1; exact False.elim h1
  | some δ' =>
    rw [e] at h1
    have := par_set (Q := fun σ' H' => D.nx σ' H') (H0 := n.H) (fun p hp => l.free_ hp) [(i, b1), (j, b2)] ws vs (so.later l1) e r1 (par_apart so r1) fun σ' so' => h1 σ' g1 _ (l.trans l1) w1 so'
    obtain ⟨v, t, rfl, v2, t2, rfl, rfl, q⟩ := this
    exact ⟨v, v2, rfl, q⟩
end
end G
end
section
set_option Elab.async false
set_option linter.all false
set_option maxRecDepth 100000
set_option maxHeartbeats 1000000
/-! names, frames, defs -/
namespace G
open PySem PySem.Spec PyProof.Rows L2
/-- a frame's names, its scope, a block's own scope -/
structure Ga where
  N : List Str
  sc : Scope
  blk : Option Scope
  lam : Bool
def plainName (x : Str) : Bool := !(x == ("__debug__" : Str)) && !(x == ("__classdict__" : Str)) && !(x == ("__name__" : Str))
def nameV (Γ : Ga) (i : Nat) (x : Str) : Bool := decide (Γ.N[i]? = some x) && (match Γ.sc.names.lookup x with | some .local => true | some .cell => true | some .free => true | _ => false) && plainName x
def nameG (Γ : Ga) (x : Str) : Bool := (match Γ.sc.names.lookup x with | some .globalImplicit => true | _ => false) && plainName x
def nameS (Γ : Ga) (i : Nat) (x : Str) : Bool := decide (Γ.N[i]? = some x) && (match Γ.blk with
  | none => (match Γ.sc.names.lookup x with | some .local => true | some .cell => true | _ => false)
  | some raw => (match raw.names.lookup x with | some .local => true | some .cell => true | _ => false))
def nmsS (Γ : Ga) : List Nat → List Expr → Bool
  | [], [] => true
  | i :: is, .Name x _ :: es => nameS Γ i x && nmsS Γ is es
  | _, _ => false
def tgS (Γ : Ga) (tup : Bool) (is : List Nat) : Expr → Bool
  | .Name x _ => (match tup, is with | false, [i] => nameS Γ i x | _, _ => false)
  | .Tuple es _ _ => tup && nmsS Γ is es
  | _ => false
def ownOfN (Γ : Ga) (is : List Nat) : List (Str × Nat) := is.map fun i => ((Γ.N[i]?).getD "", i)
/-- what the making of lambdas asks of a def's frame -/
structure Mkr (U : Wd) (L : Nat) (X : Cx) : Prop where
  ex : ∃ c P, X.env.code = .ref c ∧ LamX.TabB X.base X.mg c P ∧ (P, X.env.qual ++ "<lambda>") ∈ U.M.T ∧ ∀ p ∈ U.M.T, p.1 = P → p.2 = X.env.qual ++ "<lambda>"
  room : Room (L + 2) X.A
structure At (U : Wd) (L : Nat) (Γ : Ga) (X : Cx) : Prop where
  N : X.N = Γ.N
  sc : X.env.scope = Γ.sc
  fn : match Γ.blk with
    | none => ∀ x, X.fn x = true
    | some raw => (∀ x, X.fn x = (raw.names.lookup x == some .cell)) ∧ ((∃ sc, Γ.sc = relS raw sc) ∨ raw.names = [])
  lam : Γ.lam = true → Mkr U L X
section
variable {U : Wd} {L : Nat} {E : XK} {X : Cx} {Γ : Ga} {Φ : Nat → Option Fn}
theorem plain_name {x : Str} (h : plainName x = true) : (x == ("__debug__" : Str)) = false ∧ (x == ("__classdict__" : Str)) = false ∧ x ≠ "__name__" := by
  unfold plainName at h
  simp only [Bool.and_eq_true, Bool.not_eq_true'] at h
  refine ⟨h.1.1, h.1.2, fun z => ?_⟩
  subst z
  have := h.2
  revert this
  decide
theorem At.v (a : At U L Γ X) {i : Nat} {x : Str} (h : nameV Γ i x = true) : X.N[i]? = some x ∧ Vis X.env.scope x ∧ (x == ("__debug__" : Str)) = false ∧ (x == ("__classdict__" : Str)) = false := by
  unfold nameV at h
  simp only [Bool.and_eq_true, decide_eq_true_eq] at h
  refine ⟨by rw [a.N]; exact h.1.1, ?_, (plain_name h.2).1, (plain_name h.2).2.1⟩
  unfold Vis
  rw [a.sc]
  have h2 := h.1.2
  split at h2
  · rename_i e; exact .inl e
  · rename_i e; exact .inr (.inl e)
  · rename_i e; exact .inr (.inr e)
  · cases h2
theorem At.g (a : At U L Γ X) {x : Str} (h : nameG Γ x = true) : Gl X x ∧ (x == ("__debug__" : Str)) = false ∧ x ≠ "__name__" := by
  unfold nameG at h
  simp only [Bool.and_eq_true] at h
  refine ⟨?_, (plain_name h.2).1, (plain_name h.2).2.2⟩
  show X.env.scope.names.lookup x = some .globalImplicit
  rw [a.sc]
  have h1 := h.1
  split at h1
  · rename_i e; exact e
  · cases h1
theorem At.s (a : At U L Γ X) {i : Nat} {x : Str} (h : nameS Γ i x = true) : StN X i x := by
  unfold nameS at h
  simp only [Bool.and_eq_true, decide_eq_true_eq] at h
  refine ⟨by rw [a.N]; exact h.1, ?_, ?_⟩
  · unfold L2.Loc
    rw [a.sc]
    have h2 := h.2
    cases hb : Γ.blk with
    | none =>
      rw [hb] at h2
      simp only at h2
      split at h2
      · rename_i e; exact .inl e
      · rename_i e; exact .inr e
      · cases h2
    | some raw =>
      rw [hb] at h2
      have hf := a.fn
      rw [hb] at hf
      obtain ⟨_, hf⟩ := hf
      rcases hf with ⟨sc, e0⟩ | e0
      rotate_left
      · have h2 : (match raw.names.lookup x with | some .local => true | some .cell => true | _ => false) = true := h2
        rw [e0] at h2; cases h2
      rw [e0]
      simp only at h2
      split at h2
      · rename_i e; exact .inl (lookup_relS_keep (by simp) e)
      · rename_i e; exact .inr (lookup_relS_keep (by simp) e)
      · cases h2
  · have h2 := h.2
    have hf := a.fn
    cases hb : Γ.blk with
    | none => rw [hb] at hf; exact .inl (hf x)
    | some raw =>
      rw [hb] at h2 hf
      obtain ⟨hf, hf2⟩ := hf
      rcases hf2 with ⟨sc, e0⟩ | e0
      rotate_left
      · have h2 : (match raw.names.lookup x with | some .local => true | some .cell => true | _ => false) = true := h2
        rw [e0] at h2; cases h2
      rw [a.sc, e0]
      simp only at h2
      split at h2
      · rename_i e; exact .inr (lookup_relS_keep (by simp) e)
      · rename_i e
        refine .inl ?_
        rw [hf, e]; rfl
      · cases h2
theorem At.nms (a : At U L Γ X) : ∀ {is : List Nat} {es : List Expr}, nmsS Γ is es = true → Nms X es is
  | [], [], _ => .nil
  | [], _ :: _, h => by cases h
  | _ :: _, [], h => by cases h
  | i :: is, e :: es, h => by
    cases e with
    | Name x p =>
      unfold nmsS at h
      rw [Bool.and_eq_true] at h
      exact .cons (a.s h.1) (a.nms h.2)
    | _ => cases h
theorem At.tg (a : At U L Γ X) (F : Fit U L E X) {tup : Bool} {is : List Nat} {e : Expr} (h : tgS Γ tup is e = true) : PG X e (gOf U.M.K tup is) := by
  cases e with
  | Name x p =>
    simp only [tgS] at h
    split at h
    · exact pg_one F.K F.nd (a.s h)
    · cases h
  | Tuple es k p =>
    simp only [tgS] at h
    rw [Bool.and_eq_true] at h
    rw [h.1]
    exact pg_all F.K F.calm F.nd (a.nms h.2)
  | _ => cases h
theorem At.blkA (a : At U L Γ X) {s : Shared} {H : Hp} {scope : Scope} {C : Addr} {cl : List (Str × Addr)} {fp : List Addr} : At U L ⟨Γ.N, relS scope Γ.sc, some scope, false⟩ (X.blk s H scope (compEnvC scope cl C X.env) fp) where
  N := a.N
  sc := by
    rw [← a.sc]; rfl
  fn := ⟨fun x => rfl, .inl ⟨Γ.sc, rfl⟩⟩
  lam := fun z => by cases z
theorem own_map (Γ : Ga) (is : List Nat) : (ownOfN Γ is).map (·.2) = is := by
  unfold ownOfN
  rw [List.map_map]
  induction is with
  | nil => rfl
  | cons i is ih => rw [List.map_cons, ih]; rfl
end
structure Df where
  x : Str
  st : Stmt
  N : List Str
  code : Code
  self : Bool := false
  maker : Bool := false
def Df.ps (d : Df) : List Str := d.N.take d.code.pars
structure DfOk (U : Wd) (d : Df) : Prop where
  ex : ∃ (f : Addr) (fd : FuncData), FunD U.M.K d.x d.x (defArgs d.st) (defBody d.st) (defScope d.st) [] [] f fd ∧ U.mg d.x = some (.ref f) ∧ Binds U.M.K fd d.ps [] ∧
    (d.maker = true → ∀ c, fd.code = .ref c → ∃ P, LamX.TabB U.base U.mg c P ∧ (P, d.x ++ ".<locals>." ++ "<lambda>") ∈ U.M.T ∧ ∀ p ∈ U.M.T, p.1 = P → p.2 = d.x ++ ".<locals>." ++ "<lambda>")
def scopeC (N P : List Str) (sc : Scope) : Bool :=
  (match sc.kind with | .function => true | _ => false) && !sc.isCoroutine && !sc.isGenerator && decide N.Nodup && decide (N.take P.length = P) && (P.all fun x => match sc.names.lookup x with | some .local => true | some .cell => true | _ => false) &&
    (sc.names.all fun y => match y.2 with | .free => false | _ => true)
theorem scope_ok {N P : List Str} {sc : Scope} (h : scopeC N P sc = true) : FnScope N P sc := by
  unfold scopeC at h
  simp only [Bool.and_eq_true, Bool.not_eq_true', decide_eq_true_eq, List.all_eq_true] at h
  obtain ⟨⟨⟨⟨⟨⟨h1, h2⟩, h3⟩, h4⟩, h5⟩, h6⟩, h7⟩ := h
  refine ⟨?_, h2, h3, h4, h5, fun x hx => ?_, fun y hy z => ?_⟩
  · split at h1
    · assumption
    · cases h1
  · have := h6 x hx
    split at this
    · rename_i e; exact .inl e
    · rename_i e; exact .inr e
    · cases this
  · have := h7 y hy
    rw [z] at this
    cases this
end G
end
section
set_option Elab.async false
set_option linter.all false
set_option maxRecDepth 100000
set_option maxHeartbeats 2000000
/-! where an exception is handled: a list walked, summed, a comprehension over it -/
namespace G
open PySem PySem.Spec PyProof.Rows L2 L2H HotX
section
variable {prog : Program} {w : World} {A : Around} {E : Value → Shared → Prop} {s : Shared}
/-- a list's iterator at its end, an exception being handled -/
theorem list_end_hot {it l x1 : Addr} {i : Nat} {items : Array Value} {Q : Option Value → Shared → Prop} (hot : HotAt A x1 s.heap) (hx1 : x1 ≠ it)
    (hit : s.heap.IsListIter it l i) (hl : s.heap.IsList l items) (hx : items[i]? = none) (hQ : ∀ h', Heap.ExtBut it s.heap h' → Q none { s with heap := h' }) : wpAny (model prog w) A (pyNext (.ref it)) Q E s := by
  obtain ⟨o, ho, hc, hd⟩ := id hit
  obtain ⟨ol, hol, _, nl, hdl⟩ := hl
  obtain ⟨hh, o1, vs1, h1, d1, c1⟩ := hot
  have g1 : (s.heap.update it (Obj.mapFields (·.setIfInBounds 0 .none))).get? x1 = some o1 := (Heap.get?_update_other _ _ hx1.symm).trans h1
  unfold pyNext
  refine wpAny_bind (wpAny_attempt (wpAny_callSpecial?_slot (name := Str.ofString "__next__") hit.typeIs slot_listiter_next (wpAny_call_entry slot_listiter_next hit.typeIs entry_listiter_next ?_ (args_listiter_next _))))
  show wpAny _ _ (field (.ref it) 0 >>= _) _ _ s
  refine wpAny_bind (wpAny_field ho hd (x := .ref l) rfl ?_)
  show wpAny _ _ (if (Value.ref l == Value.none) = true then _ else _) _ _ s
  rw [if_neg (show ¬ ((Value.ref l == Value.none) = true) from Bool.false_ne_true)]
  show wpAny _ _ (field (.ref it) 1 >>= _) _ _ s
  refine wpAny_bind (wpAny_field ho hd (x := .int i 0) rfl ?_)
  show wpAny _ _ (seqItems? (.ref l) >>= _) _ _ s
  refine wpAny_bind (wpAny_seqItems hol hdl ?_)
  simp only [Int.toNat_natCast, hx]
  refine wpAny_bind (wpAny_rule (wpAny_bind (wpAny_setField ho hd (by simp) ?_)))
  show wpAny _ _ (newExc (.type "StopIteration") [] >>= _) _ _ _
  refine wpAny_bind ?_
  simp only [newExc, newTuple]
  refine wpAny_bind (wpAny_newObj_type ?_ (by size_fits))
  refine wpAny_bind (m := firstArgMember _ _) (wpAny_of_eq (a := Value.none) (by first | rfl | (simp only [firstArgMember]; rfl)) ?_)
  refine wpAny_newObj_type ?_ (by size_fits)
  refine raiseNew_hot (x1 := x1) ⟨hh, o1, vs1, Heap.get?_push_of_some _ (Heap.get?_push_of_some _ ((Heap.get?_update_other _ _ hx1.symm).trans h1)), d1, c1⟩ (Nat.ne_of_lt (Heap.lt_size (Heap.get?_push_of_some _ ((Heap.get?_update_other _ _ hx1.symm).trans h1)))) (Heap.get?_push_size _ rfl) rfl (by first | (simp; done) | (simp; omega) | (simp only [Array.size_append]; simp; omega)) ?_
  refine wpAny_bind (wpAny_isInstance (T := "StopIteration") (b := true) ⟨_, Heap.get?_update_self _ (Heap.get?_push_size _ rfl) rfl, rfl⟩ isSubtype_stop ?_)
  refine wpAny_pure (hQ _ fun b o hb e => ?_)
  have e1 := (Heap.get?_update_other s.heap (Obj.mapFields fun x => x.setIfInBounds 0 Value.none) (Ne.symm hb)).trans e
  rw [Heap.get?_update_other _ _ (Nat.ne_of_gt (Heap.lt_size (Heap.get?_push_of_some _ e1)))]
  exact Heap.get?_push_of_some _ (Heap.get?_push_of_some _ e1)
/-- a list walked, an exception being handled -/
theorem walks_hot {x1 : Addr} {o1 : Obj} {vs1 : Array Value} (hh : A.handled = some (.ref x1)) (d1 : o1.data = .fields vs1) (c1 : vs1[2]? = some .none) (I ax : Addr) (hne : ax ≠ I) (hx : x1 ≠ I) (items : Array Value) :
    Walks prog w A I [I, ax, x1] [I] items.size (fun i v => items[i]? = some v) (fun i h => h.IsListIter I ax i ∧ h.IsList ax items ∧ h.get? x1 = some o1) where
  sub := fun b hb => by simp at hb; simp [hb]
  frame := fun _ _ _ st hk => ⟨st.1.at fun o e => hk I (by simp) o e, st.2.1.at fun o e => hk ax (by simp) o e, hk x1 (by simp) _ st.2.2⟩
  item := fun i s Q E hi st hQ => by
    refine wpAny_pyNext_list_item st.1 st.2.1 (x := items[i]) (by simp [hi]) fun h' hit' hs' => ?_
    exact hQ _ h' s.toks (by simp [hi]) ⟨hit', st.2.1.extBut hs'.extBut hne, hs'.extBut x1 _ hx st.2.2⟩ fun b o hb e => hs'.extBut b o (fun h => hb (by simp [h])) e
  done := fun s Q E st hQ => list_end_hot ⟨hh, o1, vs1, st.2.2, d1, c1⟩ hx st.1 st.2.1 (by simp) fun h' he' => hQ h' s.toks fun b o hb e => he' b o (fun h => hb (by simp [h])) e
  self := fun _ _ _ _ st hQ => wpAny_pyIter_listiter st.1 hQ
theorem sum_hot {x1 l : Addr} {its : List Value} {ns : List Int} {Q : Value → Shared → Prop} (hot : HotAt A x1 s.heap) (hl : s.heap.IsList l its.toArray) (hi : IntsAre its ns)
    (h : ∀ h' tk t', (∀ b o, s.heap.get? b = some o → h'.get? b = some o) → Q (.int ns.sum t') { s with heap := h', toks := tk }) : wpAny (model prog w) A (call (.builtin "sum") [.ref l]) Q E s := by
  obtain ⟨xs, e⟩ := hi.allInts.items
  have hn : numsOf (intItems xs).toList = ns := by rw [← e]; exact hi.numsOf
  rw [nums_intItems] at hn
  rw [e] at hl
  obtain ⟨hh, o1, vs1, h1, d1, c1⟩ := hot
  refine call_sum_walkG (iter_intList hl fun s₂ e2 st hfp hlI => ?_)
  subst e2
  have n1 : x1 ≠ s.heap.objs.size := Nat.ne_of_lt (Heap.lt_size h1)
  refine ⟨_, _, _, _, _, _, numAt xs, rfl, walks_hot (A := A.in1) hh d1 c1 _ l hlI n1 (intItems xs), ⟨st.1, st.2, Heap.get?_push_of_some _ h1⟩, fun b hb => ?_, (fun _ _ => intItems_at), fun h' tk t' hk => ?_⟩
  · simp only [List.mem_cons, List.not_mem_nil, or_false] at hb
    rcases hb with rfl | rfl | rfl
    · exact hfp _ (by simp)
    · exact hfp _ (by simp)
    · exact Heap.lt_size (Heap.get?_push_of_some _ h1)
  · have := h h' tk t' (old_kept hk)
    have e3 : preSum (numAt xs) (intItems xs).size = ns.sum := by
      rw [preSum_eq, List.take_of_length_le (by simp [intItems]), hn]
    rw [e3]
    exact this
end
/-- as Turn, an exception being handled -/
structure TurnZ (P : Program) (w : World) (K : PySem.W.Frag) (tg : Expr) (J : L2.It) (fp : List Addr) (it : Addr) (tn : Nat → Heap → Prop) : Prop where
  mem : it ∈ fp
  obj : ∀ i h, tn i h → ∀ b ∈ fp, ∃ o, h.get? b = some o ∧ ∀ v, o.data ≠ .cell v
  keep : ∀ i h h', tn i h → (∀ b ∈ fp, ∀ o, h.get? b = some o → h'.get? b = some o) → tn i h'
  item : ∀ (X : Cx), X.prog = P → X.w = w → X.K = K → ∀ (i : Nat) (pins : List (Addr × Obj)) (s : Shared) (σ : L2.St) (H : Hp) (E : Value → Shared → Prop), Inv X pins σ H s → (∀ b ∈ fp, FpOk X pins H b) → tn i s.heap → J.go i H →
    wpAny (model P w) X.A (pyNext (.ref it)) (fun r s1 => ∃ u, r = some u ∧ wpAny (model P w) X.A (letOwnedTupleGo tg (.ref it) u) (fun _ s2 => ∃ x H', Inv X pins σ H' s2 ∧ RelV x u ∧ J.yld i H x H' ∧ tn (i + 1) s2.heap ∧ ∀ b ∈ fp, H' b = none) E s1) E s
  done : ∀ (X : Cx), X.prog = P → X.w = w → X.K = K → ∀ (x1 : Addr) (i : Nat) (pins : List (Addr × Obj)) (s : Shared) (σ : L2.St) (H : Hp) (E : Value → Shared → Prop), HotAt X.A x1 s.heap → x1 ∉ fp → Inv X pins σ H s → (∀ b ∈ fp, FpOk X pins H b) → tn i s.heap → J.stop i H →
    wpAny (model P w) X.A (pyNext (.ref it)) (fun r s1 => r = none ∧ Inv X pins σ H s1) E s
  self : ∀ (A : Around) (i : Nat) (s : Shared) (Q : Value → Shared → Prop) (E : Value → Shared → Prop), tn i s.heap → Q (.ref it) s → wpAny (model P w) A (pyIter (.ref it)) Q E s
theorem turnZ_list {P : Program} {w : World} {K : PySem.W.Frag} {tg : Expr} (a it : Addr) : TurnZ P w K tg (Itl K a) [it] it (fun i h => h.IsListIter it a i) where
  mem := by simp
  obj := fun i h st b hb => by
    have e : b = it := by simpa using hb
    subst e
    obtain ⟨o, e, c, d⟩ := st
    exact ⟨o, e, fun v z => by rw [d] at z; cases z⟩
  keep := fun i h h' st k => st.at fun o e => k it (by simp) o e
  item := by
    intro X hP hw hK i pins s σ H E I hf st hg
    subst hP hw hK
    obtain ⟨xs, x, hq, hx⟩ := hg
    obtain ⟨its, rv, p, hz⟩ := I.list hq
    obtain ⟨u, hu, ru⟩ := rv.get hx
    obtain ⟨f0, f1, f2, f3, f4, f5⟩ := hf it (by simp)
    refine wpAny_pyNext_list_item st p.isList (x := u) (by simpa using hu) fun h' st' sb => ?_
    have I1 : Inv X pins σ H { s with heap := h' } := I.turned (t' := s.toks) (fun b o hb e => (sb.2 b hb).trans e) f0 f1 f3 f4 f5
    obtain ⟨o, e, c, d⟩ := id st'
    exact ⟨u, rfl, go_of (s := { s with heap := h' }) e c d (by decide) ⟨x, H, I1, ru, ⟨rfl, fun ys hy => by rw [I.list_inj hy hq]; exact hx⟩, st', fun b hb => (hf b hb).1⟩⟩
  done := by
    intro X hP hw hK x1 i pins s σ H E hot hx1 I hf st hg
    subst hP hw hK
    obtain ⟨xs, hq, hx⟩ := hg
    obtain ⟨its, rv, p, hz⟩ := I.list hq
    obtain ⟨f0, f1, f2, f3, f4, f5⟩ := hf it (by simp)
    have hl := rv.length
    exact list_end_hot hot (fun z => hx1 (by simp [z])) st p.isList (by simp; omega) fun h' eb => ⟨rfl, I.turned (t' := s.toks) (fun b o hb e => eb b o hb e) f0 f1 f3 f4 f5⟩
  self := fun _ _ _ _ _ st h => wpAny_pyIter_listiter st h
/-- an iterator that may be walked there -/
structure PIZ (X : Cx) (tg iter : Expr) (wi : TI) : Prop where
  run : ∀ (pins : List (Addr × Obj)) (s : Shared) (σ : L2.St) (H : Hp) (R : L2.It → Hp → Prop), Inv X pins σ H s → wi σ H R →
    wpAny (model X.prog X.w) X.A (eval iter X.env) (fun v s1 => wpAny (model X.prog X.w) X.A (pyIter v) (fun itv s2 => ∃ (it : Addr) (fp : List Addr) (tn : Nat → Heap → Prop) (J : L2.It) (H' : Hp), itv = .ref it ∧ Inv X pins σ H' s2 ∧ TurnZ X.prog X.w X.K tg J fp it tn ∧ tn 0 s2.heap ∧ (∀ b ∈ fp, FpOk X pins H' b) ∧ R J H') X.xe s1) X.xe s
theorem piz_list {X : Cx} {tg l : Expr} {tl : TE} (hl : PE X l tl) : PIZ X tg l (iList X.K tl) := by
  refine ⟨fun pins s σ H R I h => ?_⟩
  refine thn (hl.run pins s σ H _ I h) fun v s1 ⟨x, H1, I1, r1, q1⟩ => ?_
  obtain ⟨a, e, ⟨xs, hq⟩, q⟩ := q1
  subst e
  cases r1
  obtain ⟨its, rv, p, hz⟩ := I1.list hq
  refine wpAny_pyIter_list p.isList ?_
  refine ⟨s1.heap.objs.size, [s1.heap.objs.size], _, _, H1, rfl, I1.kept (t' := s1.toks) fun b o e => Heap.get?_push_of_some _ e, turnZ_list a _, ⟨_, Heap.get?_push_size _ rfl, rfl, rfl⟩, fun b hb => ?_, q⟩
  have e : b = s1.heap.objs.size := by simpa using hb
  subst e
  exact I1.fpOk (Nat.le_refl _) (I1.hok.fresh (Nat.le_refl _))
end G
end
section
set_option Elab.async false
set_option linter.all false
set_option maxRecDepth 100000
set_option maxHeartbeats 2000000
/-! a comprehension over a list, an exception being handled -/
namespace G
open PySem PySem.Spec PyProof.Rows L2 L2H HotX
section
variable {X : Cx}
theorem lcZ {pins : List (Addr × Obj)} {s : Shared} {σ : L2.St} {H : Hp} {Q : VK} {elt tg iter : Expr} {ifs : List Expr} {scope : Scope} {own : List (Str × Nat)} {pos pos' : Pos} {wi : TI} {g : TG} {tt : TT} {te : TE} {use : Option (Value → Sem Unit)} {Qf : Value → Shared → Prop}
    (hc : HotC X) (hN : X.N.Nodup) (I : Inv X pins σ H s) (hi : PIZ X tg iter wi) (ok : BlkOk X.N X.env.scope scope own)
    (hg : ∀ (s : Shared) (H : Hp) (C : Addr) (cl : List (Str × Addr)) (fp : List Addr), PG (X.blk s H scope (compEnvC scope cl C X.env) fp) tg g)
    (ht : ∀ (s : Shared) (H : Hp) (C : Addr) (cl : List (Str × Addr)) (fp : List Addr), PTs (X.blk s H scope (compEnvC scope cl C X.env) fp) ifs tt)
    (he : ∀ (s : Shared) (H : Hp) (C : Addr) (cl : List (Str × Addr)) (fp : List Addr), PE (X.blk s H scope (compEnvC scope cl C X.env) fp) elt te) (hs : ∀ x, foldedSetIterable iter X.env x = pure x)
    (h : tLc wi g tt te (own.map (·.2)) σ H Q)
    (hRR : ∀ D C s' m H', Inv X pins σ H' s' → Q (.ref D) H' → s'.heap.Ns C m → FpOk X pins H' C → compPost (model X.prog X.w) X.A X.xe use Qf (.ref D) C (.ok .next) s') :
    wpAny (model X.prog X.w) X.A (comprehension (.ListComp elt [⟨tg, iter, ifs, 0⟩] scope pos) scope X.env pos' (newList []) false (eval iter X.env) use) Qf X.xe s := by
  obtain ⟨p, ⟨hh, v1, d1, c1⟩, hp⟩ := hc
  have hfree : ∀ y ∈ scope.names, y.2 = .free → ∃ c, X.env.cells.lookup y.1 = some c := fun y hy e => by
    rcases ok.free y hy e with k | k
    · exact I.ok.has _ (.inl k)
    · exact I.ok.has _ (.inr k)
  refine wpAny_comprehension_free (use := use) rfl hs (closure_ok hfree) ok.kind (fun y hy e => by rw [ok.uniq y hy, e]) (thn (hi.run pins s σ H _ I h) fun xv s1 hx => thn hx fun itv s2 h2 => ?_)
  obtain ⟨it, fp, tn, J, H2, e, I2, T, st2, f2, q⟩ := h2
  subst e
  refine wpAny_newObj_type (newEnv_comp ?_) (by show 0 ≤ sizeLine; decide)
  generalize hD : s2.heap.objs.size = D
  have hDn : H2 D = none := I2.hok.fresh (Nat.le_of_eq hD)
  obtain ⟨W, ⟨m0, w0⟩, turn⟩ := q D hDn
  generalize hs3 : ({ s2 with heap := s2.heap.push { cls := .type "list", data := .seq ([] : List Value).toArray } } : Shared) = s3
  have I3 : Inv X pins σ (upd H2 D (.lst [])) s3 := by
    rw [← hs3]
    refine I2.laid (t' := s2.toks) (fun b o e => Heap.get?_push_of_some _ e) (Nat.le_of_eq hD) ⟨Nat.zero_le _, [], 0, .nil, ?_⟩
    rw [← hD]
    exact Heap.get?_push_size _ rfl
  have h3 : s3.heap = s2.heap.push { cls := .type "list", data := .seq ([] : List Value).toArray } := by rw [← hs3]
  have sz : ∀ b ∈ fp, b < s2.heap.objs.size := fun b hb => by
    obtain ⟨o, e, _⟩ := T.obj _ _ st2 b hb
    exact Heap.lt_size e
  have f3 : ∀ b ∈ fp, FpOk X pins (upd H2 D (.lst [])) b ∧ b < s3.heap.objs.size := fun b hb => by
    have hlt := sz b hb
    refine ⟨⟨?_, (f2 b hb).2⟩, by rw [h3, Heap.size_push]; exact Nat.lt_succ_of_lt hlt⟩
    rw [upd_ne (by rw [← hD]; exact Nat.ne_of_lt hlt)]
    exact (f2 b hb).1
  have st3 : tn 0 s3.heap := T.keep _ _ _ st2 fun b _ o e => by rw [h3]; exact Heap.get?_push_of_some _ e
  -- the handled one stands apart
  have P3 := I3.pin p (List.mem_append_left _ hp)
  have nfr : p.1 ∉ frs X.stack := fun hm => (List.mem_cons.mp (I3.stkSub p.1 hm)).elim P3.2.2.1 P3.2.2.2.1
  have nfp1 : p.1 ∉ fp := fun hm => (f2 p.1 hm).2.2.2.2.2 p (List.mem_append_left _ hp) rfl
  have I4 := block_start I3 ok hN f3
  have pg := hg s3 (upd H2 D (.lst [])) s3.heap.objs.size (cellsFrom (s3.heap.objs.size + 1) scope.names (cloFrom X.env.cells scope.names [])) fp
  have pt := ht s3 (upd H2 D (.lst [])) s3.heap.objs.size (cellsFrom (s3.heap.objs.size + 1) scope.names (cloFrom X.env.cells scope.names [])) fp
  have pe := he s3 (upd H2 D (.lst [])) s3.heap.objs.size (cellsFrom (s3.heap.objs.size + 1) scope.names (cloFrom X.env.cells scope.names [])) fp
  show codeAny _ _ (.compStart (.ListComp elt [⟨tg, iter, ifs, 0⟩] scope pos) 0 (.ref it) (.ref D) (compEnvC scope (cellsFrom (s3.heap.objs.size + 1) scope.names (cloFrom X.env.cells scope.names [])) s3.heap.objs.size X.env)) (compPost (model X.prog X.w) X.A X.xe use Qf (.ref D) s3.heap.objs.size) { s3 with heap := pushCells (s3.heap.push { cls := .type "dict", data := .dict #[] }) scope.names }
  have nfp : ∀ b ∈ fp, (upd H2 D (.lst [])) b = none := fun b hb => (f3 b hb).1.1
  generalize hce : compEnvC scope (cellsFrom (s3.heap.objs.size + 1) scope.names (cloFrom X.env.cells scope.names [])) s3.heap.objs.size X.env = ce at I4 pg pt pe ⊢
  have cL : ce.locals = s3.heap.objs.size := by subst hce; rfl
  have pH := P3.2.1
  generalize hH3 : upd H2 D (.lst []) = H3 at I3 I4 pg pt pe w0 nfp f3 pH
  generalize hs4 : ({ s3 with heap := pushCells (s3.heap.push { cls := .type "dict", data := .dict #[] }) scope.names } : Shared) = s4 at I4 ⊢
  have st4 : tn 0 s4.heap := T.keep _ _ _ st3 fun b _ o e => by rw [← hs4]; exact pushCells_keeps _ _ _ _ (Heap.get?_push_of_some _ e)
  have hot : ∀ {σ' : L2.St} {H' : Hp} {s' : Shared}, Inv (X.blk s3 H3 scope ce fp) [] σ' H' s' → HotAt X.A p.1 s'.heap := fun {σ' H' s'} I' => ⟨hh, p.2, v1, I'.base.keep p.1 p.2 P3.1 pH nfr nfp1, d1, c1⟩
  have stat : ∀ {σ' : L2.St} {H' : Hp} {s' : Shared}, Inv (X.blk s3 H3 scope ce fp) [] σ' H' s' → (∀ b ∈ fp, H' b = none) → ∀ b ∈ fp, FpOk (X.blk s3 H3 scope ce fp) [] H' b := fun {σ' H' s'} I' hn b hb =>
    ⟨hn b hb, (I'.ok.exf b hb).1, I'.ok.exfs b hb, .inl hb, fun x c e => (I'.ok.exf b hb).2 x c e, fun p hp => absurd (show p ∈ ([] : List (Addr × Obj)) ++ [] from hp) (by simp)⟩
  have loop : codeAny (model X.prog X.w) X.A (.compLoop (.ListComp elt [⟨tg, iter, ifs, 0⟩] scope pos) 0 (.ref it) (.ref D) ce) (compPost (model X.prog X.w) X.A X.xe use Qf (.ref D) s3.heap.objs.size) s4 := by
    refine compLoop_any (fun n s' => ∃ i H', Inv (X.blk s3 H3 scope ce fp) [] (wipe σ (own.map (·.2))) H' s' ∧ tn i s'.heap ∧ (∀ b ∈ fp, H' b = none) ∧ W i n H') ?_ m0 ⟨0, H3, I4, st4, nfp, w0⟩
    rintro n s5 ⟨i, H5, I5, st5, n5, w5⟩
    rcases turn i n H5 w5 with ⟨stop, qq⟩ | ⟨go, Nx, hNx, step⟩
    · have td := T.done (X.blk s3 H3 scope ce fp) rfl rfl rfl p.1 i [] s5 _ H5 (fun _ _ => False) (hot I5) nfp1 I5 (stat I5 n5) st5 stop
      refine thnF td fun r s6 ⟨hr, I6⟩ => ?_
      subst hr
      have I7 : Inv X pins σ H5 s6 := I3.call' (ch := fp) I6.os I6.base I6.hok I6.bare fun b hb => ⟨(f3 b hb).1.2.2.2.1, (f3 b hb).1.2.1, (f3 b hb).1.2.2.2.2.1, (f3 b hb).1.2.2.2.2.2⟩
      have nC : H5 s3.heap.objs.size = none := by
        have z : H5 ce.locals = none := I6.free
        rw [cL] at z
        exact z
      obtain ⟨m, hn, _⟩ := I6.loc
      have hn : s6.heap.Ns ce.locals m := hn
      rw [cL] at hn
      exact hRR D s3.heap.objs.size s6 m H5 I7 qq hn (I3.fpOk (Nat.le_refl _) nC)
    · have ti := T.item (X.blk s3 H3 scope ce fp) rfl rfl rfl i [] s5 _ H5 (fun _ _ => False) I5 (stat I5 n5) st5 go
      refine thnF ti fun r s6 ⟨u, hr, h6⟩ => ?_
      subst hr
      refine thnF h6 fun _ s7 ⟨x, H7, I7, r7, y7, st7, n7⟩ => ?_
      have I7' := I7.pinned (stat I7 n7) (T.obj _ _ st7)
      refine thnF (pg.run _ s7 _ H7 x u _ I7' r7 (step x H7 y7)) fun _ s8 ⟨σ8, H8, I8, hw8, q8⟩ => ?_
      refine thnF (pt.run _ s8 σ8 H8 _ I8 q8) fun b s9 ⟨H9, I9, q9⟩ => ?_
      have fin : ∀ {s' : Shared} {H' : Hp}, Inv (X.blk s3 H3 scope ce fp) ([] ++ pinsAt fp s7.heap) σ8 H' s' → Nx H' → ∃ m, m < n ∧ ∃ i H', Inv (X.blk s3 H3 scope ce fp) [] (wipe σ (own.map (·.2))) H' s' ∧ tn i s'.heap ∧ (∀ b ∈ fp, H' b = none) ∧ W i m H' := fun {s' H'} I' nx => by
        obtain ⟨m', hm, w'⟩ := hNx H' nx
        have pin' : ∀ b ∈ fp, ∀ o, s7.heap.get? b = some o → s'.heap.get? b = some o ∧ H' b = none := fun b hb o e =>
          let z := I'.pin (b, o) (List.mem_append_right _ (List.mem_append_right _ (mem_pinsAt hb e)))
          ⟨z.1, z.2.1⟩
        have hl : (wipe σ (own.map (·.2))).length = σ8.length := by rw [← hw8, wipe_length]
        refine ⟨m', hm, i + 1, H', (I'.unpinned (pins := [])).weak hl (fun j v e => ?_), T.keep _ _ _ st7 fun b hb o e => (pin' b hb o e).1, fun b hb => ?_, w'⟩
        · rw [← hw8] at e
          exact (wipe_some e).1
        · obtain ⟨o, e, _⟩ := T.obj _ _ st7 b hb
          exact (pin' b hb o e).2
      cases b with
      | false =>
        simp only [Bool.false_eq_true, if_false] at q9 ⊢
        exact fin I9 q9
      | true =>
        simp only [if_true] at q9 ⊢
        refine thnF (pe.run _ s9 σ8 H9 _ I9 q9) fun z s10 ⟨yv, H10, I10, r10, acc, hD10, hz10, nx⟩ => ?_
        exact app_ok (X := X.blk s3 H3 scope ce fp) I10 hD10 hz10 r10 fun s11 I11 => fin I11 nx
  exact codeAny_compStart_list loop (T.self X.A 0 _ _ _ st4 loop)
theorem pe_lcZ {elt tg iter : Expr} {ifs : List Expr} {scope : Scope} {own : List (Str × Nat)} {pos : Pos} {wi : TI} {g : TG} {tt : TT} {te : TE} (hc : HotC X) (hN : X.N.Nodup) (hi : PIZ X tg iter wi) (ok : BlkOk X.N X.env.scope scope own)
    (hg : ∀ (s : Shared) (H : Hp) (C : Addr) (cl : List (Str × Addr)) (fp : List Addr), PG (X.blk s H scope (compEnvC scope cl C X.env) fp) tg g)
    (ht : ∀ (s : Shared) (H : Hp) (C : Addr) (cl : List (Str × Addr)) (fp : List Addr), PTs (X.blk s H scope (compEnvC scope cl C X.env) fp) ifs tt)
    (he : ∀ (s : Shared) (H : Hp) (C : Addr) (cl : List (Str × Addr)) (fp : List Addr), PE (X.blk s H scope (compEnvC scope cl C X.env) fp) elt te) (hs : ∀ x, foldedSetIterable iter X.env x = pure x := by intro _; rfl) :
    PE X (.ListComp elt [⟨tg, iter, ifs, 0⟩] scope pos) (tLc wi g tt te (own.map (·.2))) := by
  refine ⟨fun pins s σ H Q I h => ?_⟩
  rw [eval_ListComp]
  refine lcZ hc hN I hi ok hg ht he hs h fun D C s' m H' I' q hn f => ⟨m, hn, fun h'' sb => ?_⟩
  obtain ⟨f0, f1, f2, f3, f4, f5⟩ := f
  exact ⟨.ref D, H', I'.turned (t' := s'.toks) (fun b o hb e => (sb.2 b hb).trans e) f0 f1 f3 f4 f5, rfl, q⟩
end
end G
end
section
set_option Elab.async false
set_option linter.all false
set_option maxRecDepth 100000
set_option maxHeartbeats 2000000
/-! _law_term, called where an exception is handled -/
namespace G
open PySem PySem.Spec PyProof.Rows L2 L2H HotX
def exN : List Str := ["InvalidTable", "InvalidName", "InvalidNumber", "InvalidPairing", "InvalidAlignment", "InvalidWeights", "InvalidPlan", "InvalidSplit", "InvalidVersions", "BookFull", "NothingToUndo", "InvalidText"]
def exS (i : Nat) : Str := exN.getD i ""
/-- the classes: C i the address of the i-th -/
structure ClsF (K : PySem.W.Frag) (mg : Str → Option Value) (C : Nat → Addr) : Prop where
  mg : ∀ i, i < 12 → mg (exS i) = some (.ref (C i))
  ex : ∀ i, i < 12 → ExcC K (C i)
  kit : ∀ i j, i < 12 → j < 12 → PySem.W.kitOne K (.ref (C i)) (.ref (C j)) = some (decide (i = j))
  ve : ∀ i, i < 12 → PySem.W.kitOne K (.ref (C i)) (.type "ValueError") = some true
section
variable {X : Cx}
theorem isE_hot {p : Addr × Obj} {D : Addr} (hp : p ∈ X.pn) (C : ExcC X.K D) (hz : Zc (.ref D) none p.2) (hf : ∃ vs, p.2.data = .fields vs) : CallR X (.builtin "isinstance") (rIsE X.K D p.1) := by
  intro pins s σ H xs us Q I r h
  obtain ⟨c, cv, b, rfl, hcv, e, q⟩ := h
  cases r with
  | cons rx rr =>
    cases rr with
    | cons rt rr =>
      cases rr
      cases rx
      have ec := hcv _ rt
      subst ec
      obtain ⟨hget, _⟩ := I.pin p (List.mem_append.mpr (.inl hp))
      obtain ⟨vs, hv⟩ := hf
      have J : PySem.W.InstAt s.heap p.1 p.2 D none := by
        obtain ⟨a, oc, od, oda, osl⟩ := p
        obtain ⟨h1, h2⟩ := hz
        dsimp only at h1 h2 hv
        subst h1 h2 hv
        exact ⟨hget, rfl, rfl, trivial⟩
      exact PySem.W.kia_one (PySem.W.handS_kitx_exc C.hg C.hk C.hs C.hd C.ha C.hn C.ht C.hm) I.kIn J e (fun z => nomatch z) fun tk => ⟨.bl b, H, I.kept (t' := tk) fun _ _ z => z, rfl, q⟩
end
/-! ### the shapes -/
def shIs (Γ : Ga) (C : Str) : Expr → Bool
  | .Call (.Name i _) [.Name x _, .Name c _] [] _ => decide (i = "isinstance") && decide (x = "_law_e") && decide (c = C) && nameG Γ "isinstance" && nameV Γ 0 "_law_e" && nameG Γ C
  | _ => false
def shIs3 (Γ : Ga) (i : Nat) : Expr → Bool
  | .List [a, b, c] _ => shIs Γ (exS i) a && shIs Γ (exS (i + 1)) b && shIs Γ (exS (i + 2)) c
  | _ => false
def shSt (x : Str) : Expr → Bool
  | .Constant (.str y) _ _ => decide (y = x)
  | _ => false
def shSt6 (i : Nat) : Expr → Bool
  | .List [a, b, c, d, e, f] _ => shSt (exS i) a && shSt (exS (i + 1)) b && shSt (exS (i + 2)) c && shSt (exS (i + 3)) d && shSt (exS (i + 4)) e && shSt (exS (i + 5)) f
  | _ => false
def shCat (Γ : Ga) (j : Nat) (x : Str) (f : Expr → Bool) : Stmt → Bool
  | .Assign [.Name y _] (.BinOp (.Name z _) .Add e _) _ => decide (y = x) && decide (z = x) && nameS Γ j x && nameV Γ j x && f e
  | _ => false
def shFst (Γ : Ga) (j : Nat) (x : Str) (f : Expr → Bool) : Stmt → Bool
  | .Assign [.Name y _] e _ => decide (y = x) && nameS Γ j x && f e
  | _ => false
def shRet1 : List Stmt → Bool
  | [.Return (some (.Tuple [a, b] _ _)) _] => shSt "error" a && shSt "other" b
  | _ => false
def shRet2 (Γ : Ga) : Stmt → Bool
  | .Return (some (.Tuple [a, .Subscript (.Name k _) (.Call (.Attribute (.Name f _) m apos) [.Constant (.bool t) _ _] [] cpos) _] _ _)) _ => shSt "error" a && decide (k = "_law_kinds") && decide (f = "_law_flags") && decide (m = "index") && t && (apos.endLine == cpos.line) && nameV Γ 2 "_law_kinds" && nameV Γ 1 "_law_flags"
  | _ => false
def shSum (Γ : Ga) : Expr → Bool
  | .Compare (.Call (.Name sm _) [.ListComp (.Call (.Name it _) [.Name fl _] [] _) [⟨.Name fl2 _, .Name fs _, [], 0⟩] scope _] [] _) [.NotEq] [.Constant (.int o) _ _] _ =>
    decide (sm = "sum") && decide (it = "int") && decide (fl = "_law_flag") && decide (fl2 = "_law_flag") && decide (fs = "_law_flags") && decide (o = 1) && nameG Γ "sum" && nameV Γ 1 "_law_flags" && blkC Γ.N Γ.sc scope (ownOfN Γ [3]) &&
    nameS ⟨Γ.N, relS scope Γ.sc, some scope, false⟩ 3 "_law_flag" && nameV ⟨Γ.N, relS scope Γ.sc, some scope, false⟩ 3 "_law_flag" && nameG ⟨Γ.N, relS scope Γ.sc, some scope, false⟩ "int"
  | _ => false
def shIf (Γ : Ga) : Stmt → Bool
  | .If (.BoolOp .Or [a, .UnaryOp .Not b _] _) r [] _ => shSum Γ a && shIs Γ "ValueError" b && shRet1 r
  | _ => false
def shTerm (Γ : Ga) : List Stmt → Bool
  | [s1, s2, s3, s4, s5, s6, s7, s8] => shFst Γ 1 "_law_flags" (shIs3 Γ 0) s1 && shCat Γ 1 "_law_flags" (shIs3 Γ 3) s2 && shCat Γ 1 "_law_flags" (shIs3 Γ 6) s3 && shCat Γ 1 "_law_flags" (shIs3 Γ 9) s4 &&
    shFst Γ 2 "_law_kinds" (shSt6 0) s5 && shCat Γ 2 "_law_kinds" (shSt6 6) s6 && shIf Γ s7 && shRet2 Γ s8
  | _ => false
section
variable {U : Wd} {L : Nat} {X : Cx} {Γ : Ga} {C : Nat → Addr} {D : Nat} {p : Addr × Obj}
/-- the context of its body -/
structure TmX (U : Wd) (L : Nat) (Γ : Ga) (X : Cx) (C : Nat → Addr) (D : Nat) (p : Addr × Obj) : Prop where
  at_ : At U L Γ X
  F : ClsF X.K X.mg C
  hD : D < 12
  pn : p ∈ X.pn
  hz : Zc (.ref (C D)) none p.2
  hf : ∃ vs, p.2.data = .fields vs
  hot : HotC X
  nd : X.N.Nodup
  kind : X.env.scope.kind = .function
  fre : ∀ x ∈ (["isinstance", "ValueError", "sum", "int"] : List Str), X.mg x = none
def wIs (b : Bool) (p : Addr) : TE := fun σ H Q => σ[0]? = some (some (.ref p)) ∧ Q (.bl b) H
theorem is_call (T : TmX U L Γ X C D p) {c : Str} {v : V} {cv : Value} {b : Bool} {e : Expr} (he : ∀ q, PE X (.Name c q) (L2.tC v)) (hv : ∀ u, RelV v u → u = cv) (hk : PySem.W.kitOne X.K (.ref (C D)) cv = some b) (h : shIs Γ c e = true) : PE X e (wIs b p.1) := by
  unfold shIs at h
  split at h
  rotate_left
  · cases h
  simp only [Bool.and_eq_true, decide_eq_true_eq] at h
  obtain ⟨⟨⟨⟨⟨rfl, rfl⟩, rfl⟩, h1⟩, h2⟩, h3⟩ := h
  obtain ⟨g1, g2, g3⟩ := T.at_.g h1
  obtain ⟨v0, v1, v2, v3⟩ := T.at_.v h2
  refine (pe_callB (isE_hot T.pn (T.F.ex D T.hD) T.hz T.hf) g1 (T.fre _ (by simp)) (by rfl) (pa_cons (pe_var v0 v1 v2 v3) (pa_cons (he _) pa_nil rfl) rfl) g3 g2 rfl rfl).imp fun σ H Q ⟨h1, h2⟩ => ?_
  exact ⟨_, h1, v, cv, b, rfl, hv, hk, h2⟩
theorem is_one (T : TmX U L Γ X C D p) {i : Nat} (hi : i < 12) {e : Expr} (h : shIs Γ (exS i) e = true) : PE X e (wIs (decide (D = i)) p.1) := by
  have hg : nameG Γ (exS i) = true := by
    unfold shIs at h
    split at h
    · simp only [Bool.and_eq_true] at h; exact h.2
    · cases h
  obtain ⟨g1, g2, g3⟩ := T.at_.g hg
  exact is_call T (v := .ref (C i)) (fun q => pe_glob g1 (T.F.mg i hi) rfl g2) (fun u r => r) (T.F.kit D i T.hD hi) h
theorem is_ve (T : TmX U L Γ X C D p) {e : Expr} (h : shIs Γ "ValueError" e = true) : PE X e (wIs true p.1) := by
  have hg : nameG Γ "ValueError" = true := by
    unfold shIs at h
    split at h
    · simp only [Bool.and_eq_true] at h; exact h.2
    · cases h
  obtain ⟨g1, g2, g3⟩ := T.at_.g hg
  exact is_call T (v := .ty "ValueError") (fun q => pe_bltn g1 (T.fre _ (by simp)) (by rfl) rfl g3 g2) (fun u r => r) (T.F.ve D T.hD) h
/-- a new list, the slots as they were -/
def wNew (p : Addr) (vs : List V) : TE := fun σ H Q => σ[0]? = some (some (.ref p)) ∧ ∀ q, H q = none → Q (.ref q) (upd H q (.lst vs))
def bl3 (D i : Nat) : List V := [.bl (decide (D = i)), .bl (decide (D = i + 1)), .bl (decide (D = i + 2))]
theorem is_three (T : TmX U L Γ X C D p) {i : Nat} (hi : i + 2 < 12) {e : Expr} (h : shIs3 Γ i e = true) : PE X e (wNew p.1 (bl3 D i)) := by
  unfold shIs3 at h
  split at h
  rotate_left
  · cases h
  simp only [Bool.and_eq_true] at h
  refine (pe_lst (pa_cons (is_one T (by omega) h.1.1) (pa_cons (is_one T (by omega) h.1.2) (pa_cons (is_one T (by omega) h.2) pa_nil ?_) ?_) ?_)).imp fun σ H Q ⟨h1, h2⟩ => ?_
  · have := h.2; revert this; unfold shIs; split <;> intro z; · rfl
    · cases z
  · have := h.1.2; revert this; unfold shIs; split <;> intro z; · rfl
    · cases z
  · have := h.1.1; revert this; unfold shIs; split <;> intro z; · rfl
    · cases z
  · exact ⟨h1, h1, h1, by show 3 ≤ sizeLine; rw [sizeLine_eq]; omega, h2⟩
theorem st_one {x : Str} {e : Expr} (h : shSt x e = true) : PE X e (L2.tC (.str x)) ∧ starEach [e] X.env = (false, eval e X.env) :: starEach [] X.env ∧ ∀ es, starEach (e :: es) X.env = (false, eval e X.env) :: starEach es X.env := by
  unfold shSt at h
  split at h
  · rw [decide_eq_true_eq] at h
    subst h
    exact ⟨pe_str, rfl, fun _ => rfl⟩
  · cases h
def st6 (i : Nat) : List V := [.str (exS i), .str (exS (i + 1)), .str (exS (i + 2)), .str (exS (i + 3)), .str (exS (i + 4)), .str (exS (i + 5))]
theorem st_six {i : Nat} {e : Expr} (h : shSt6 i e = true) : PE X e (fun _ H Q => ∀ q, H q = none → Q (.ref q) (upd H q (.lst (st6 i)))) := by
  unfold shSt6 at h
  split at h
  rotate_left
  · cases h
  simp only [Bool.and_eq_true] at h
  obtain ⟨⟨⟨⟨⟨h1, h2⟩, h3⟩, h4⟩, h5⟩, h6⟩ := h
  refine (pe_lst (pa_cons (st_one h1).1 (pa_cons (st_one h2).1 (pa_cons (st_one h3).1 (pa_cons (st_one h4).1 (pa_cons (st_one h5).1 (pa_cons (st_one h6).1 pa_nil ((st_one h6).2.2 _)) ((st_one h5).2.2 _)) ((st_one h4).2.2 _)) ((st_one h3).2.2 _)) ((st_one h2).2.2 _)) ((st_one h1).2.2 _))).imp fun σ H Q h => ?_
  exact ⟨by show 6 ≤ sizeLine; rw [sizeLine_eq]; omega, h⟩
theorem cr_sumZ (hc : HotC X) : CallR X (.builtin "sum") (rSum X.K) := by
  intro pins s σ H vs us Q I r h
  obtain ⟨a, ns, rfl, hs, q⟩ := h
  obtain ⟨its, rv, hl, _⟩ := I.list hs
  obtain ⟨x1, hot⟩ := hc.at I
  rw [Vals.ref1 r]
  exact sum_hot hot hl.isList rv.ints fun h' tk t' hk => ⟨.int _, H, I.kept hk, ⟨_, rfl⟩, q⟩
/-- x = [..] -/
theorem ps_fst (T : TmX U L Γ X C D p) {j : Nat} {x : Str} {f : Expr → Bool} {te : TE} {st : Stmt} (h : shFst Γ j x f st = true) (hf : ∀ e, f e = true → PE X e te ∧ ∀ tg ln, swapsWith e tg ln X.env = pure false) : PS X st (tAsg te (gName j)) := by
  unfold shFst at h
  split at h
  rotate_left
  · cases h
  simp only [Bool.and_eq_true, decide_eq_true_eq] at h
  obtain ⟨⟨rfl, h1⟩, h2⟩ := h
  have sn := T.at_.s h1
  obtain ⟨q1, q2⟩ := hf _ h2
  exact ps_set T.nd sn.at_ sn.loc q1 (q2 _ _) sn.fn
/-- x = x + [..] -/
theorem ps_catL (T : TmX U L Γ X C D p) {j : Nat} {x : Str} {f : Expr → Bool} {te : TE} {st : Stmt} (h : shCat Γ j x f st = true) (hf : ∀ e, f e = true → PE X e te) : PS X st (tAsg (tOp rCat (tVar j) te) (gName j)) := by
  unfold shCat at h
  split at h
  rotate_left
  · cases h
  simp only [Bool.and_eq_true, decide_eq_true_eq] at h
  obtain ⟨⟨⟨⟨rfl, rfl⟩, h1⟩, h3⟩, h2⟩ := h
  have sn := T.at_.s h1
  obtain ⟨v0, v1, v2, v3⟩ := T.at_.v h3
  exact ps_set T.nd sn.at_ sn.loc (pe_op op_cat (pe_var v0 v1 v2 v3) (hf _ h2)) rfl sn.fn
theorem sw3 {i : Nat} {e : Expr} (h : shIs3 Γ i e = true) (tg : Option Expr) (ln : Nat) (env : PySem.Env) : swapsWith e tg ln env = pure false := by
  unfold shIs3 at h
  split at h
  · rfl
  · cases h
theorem sw6 {i : Nat} {e : Expr} (h : shSt6 i e = true) (tg : Option Expr) (ln : Nat) (env : PySem.Env) : swapsWith e tg ln env = pure false := by
  unfold shSt6 at h
  split at h
  · rfl
  · cases h
theorem ret_one {st : List Stmt} (h : shRet1 st = true) : ∃ t, PSs X st t := by
  unfold shRet1 at h
  split at h
  rotate_left
  · cases h
  rw [Bool.and_eq_true] at h
  exact ⟨_, pss_one (ps_ret (pe_tup (pa_cons (st_one h.1).1 (pa_cons (st_one h.2).1 pa_nil ((st_one h.2).2.2 _)) ((st_one h.1).2.2 _))))⟩
def flg (D : Nat) : List Bool := (List.range 12).map fun i => decide (D = i)
theorem up_new {H : Hp} {q : Addr} {o : HO} (hq : H q = none) : ∀ b u, H b = some u → upd H q o b = some u := fun b u e => by rw [upd_ne (ne_of_none e hq)]; exact e
/-- sum([int(..)]) != 1 -/
theorem pt_sum (T : TmX U L Γ X C D p) {e : Expr} (h : shSum Γ e = true) : PT X e (fun σ H Q => ∃ a, 3 < σ.length ∧ σ[1]? = some (some (.ref a)) ∧ H a = some (.lst ((flg D).map V.bl)) ∧ ∀ H', (∀ b o, H b = some o → H' b = some o) → Q (!decide (((flg D).map fun b => if b = true then (1 : Int) else 0).sum = 1)) H') := by
  unfold shSum at h
  split at h
  rotate_left
  · cases h
  simp only [Bool.and_eq_true, decide_eq_true_eq] at h
  obtain ⟨⟨⟨⟨⟨⟨⟨⟨⟨⟨⟨rfl, rfl⟩, rfl⟩, rfl⟩, rfl⟩, rfl⟩, g1⟩, v1⟩, hb⟩, sn⟩, vn⟩, gn⟩ := h
  rename_i scope _ _ _ _ _
  obtain ⟨a1, a2, a3⟩ := T.at_.g g1
  obtain ⟨b0, b1, b2, b3⟩ := T.at_.v v1
  have ok2 : BlkOk X.N X.env.scope scope (ownOfN Γ [3]) := by
    rw [T.at_.N, T.at_.sc]
    exact blkOk_by hb
  have atb : ∀ (s : Shared) (H : Hp) (Cc : Addr) (cl : List (Str × Addr)) (fp : List Addr), At U L ⟨Γ.N, relS scope Γ.sc, some scope, false⟩ (X.blk s H scope (compEnvC scope cl Cc X.env) fp) := fun s H Cc cl fp => T.at_.blkA
  have ndb : ∀ (s : Shared) (H : Hp) (Cc : Addr) (cl : List (Str × Addr)) (fp : List Addr), (X.blk s H scope (compEnvC scope cl Cc X.env) fp).N.Nodup := fun s H Cc cl fp => T.nd
  refine (pt_cmpR op_ne (pe_callB (cr_sumZ T.hot) a1 (T.fre _ (by simp)) (by rfl) (pa_cons (pe_lcZ (tt := tYes) (g := gName 3) T.hot T.nd (piz_list (pe_var b0 b1 b2 b3)) ok2
    (fun s H Cc cl fp => pg_name (ndb s H Cc cl fp) ((atb s H Cc cl fp).s sn).at_ ((atb s H Cc cl fp).s sn).loc ((atb s H Cc cl fp).s sn).fn) (fun s H Cc cl fp => pts_nil)
    (fun s H Cc cl fp => pe_callTy call_int1 ((atb s H Cc cl fp).g gn).1 (T.fre _ (by simp)) (by rfl) (pa_cons (pe_var ((atb s H Cc cl fp).v vn).1 ((atb s H Cc cl fp).v vn).2.1 ((atb s H Cc cl fp).v vn).2.2.1 ((atb s H Cc cl fp).v vn).2.2.2) pa_nil rfl) (by decide) (by decide) rfl rfl))
    pa_nil rfl) (by decide) (by decide) rfl rfl) pe_int rfl).imp fun σ H Q ⟨a, hlen, ha, hl, hq⟩ => ?_
  have hsz : (flg D).length = 12 := by simp [flg]
  refine ⟨_, ha, a, rfl, ⟨_, SqL.of hl⟩, fun L hL => ⟨fun i m H' => m = 12 - i ∧ i ≤ 12 ∧ (∀ b o, H b = some o → H' b = some o) ∧ H' L = some (.lst ((((flg D).take i).map fun b => if b = true then (1 : Int) else 0).map V.int)), ⟨12, rfl, by omega, up_new hL, upd_same⟩, fun i m H' ⟨e1, e2, e3, e4⟩ => ?_⟩⟩
  by_cases hi : i < 12
  · refine .inr ⟨⟨_, .bl ((flg D)[i]'(by omega)), SqL.of (e3 _ _ hl), by simp [hi, hsz]⟩, fun H2 => H2 L = some (.lst ((((flg D).take (i + 1)).map fun b => if b = true then (1 : Int) else 0).map V.int)) ∧ ∀ b o, H b = some o → H2 b = some o, fun H2 ⟨k1, k2⟩ => ⟨12 - (i + 1), by omega, rfl, by omega, k2, k1⟩, ?_⟩
    rintro x H2 ⟨rfl, hx⟩
    have hx2 := hx _ (SqL.of (e3 _ _ hl))
    have hx3 : ((flg D).map V.bl)[i]? = some (.bl ((flg D)[i]'(by omega))) := by simp [hsz, hi]
    rw [hx3] at hx2
    cases hx2
    have hw : (ownOfN Γ [3]).map (·.2) = [3] := own_map Γ [3]
    rw [hw]
    refine ⟨?_, ?_⟩
    · refine (wipe_eq (σ := wipe σ [3]) (by rw [List.length_set]) fun j hj => ?_).trans (wipe_eq (wipe_length _ _) fun j hj => wipe_out hj)
      have : j ≠ 3 := fun z => hj (by rw [z]; simp)
      rw [get_set, if_neg fun z => this z.1.symm]
    · simp only [tYes, ↓reduceIte]
      have w3 : ((wipe σ [3]).set 3 (some (.bl ((flg D)[i]'(by omega)))))[3]? = some (some (.bl ((flg D)[i]'(by omega)))) := List.getElem?_set_self (by rw [wipe_length]; exact hlen)
      refine ⟨_, w3, .inr ⟨_, rfl, _, e4, ?_, ?_, ?_⟩⟩
      · rw [List.length_map, List.length_map, List.length_take, sizeLine_eq]; omega
      · rw [upd_same]
        congr 2
        rw [List.take_succ_eq_append_getElem (by omega)]
        simp only [List.map_append, List.map_cons, List.map_nil]
      · intro b o e
        have hb : b ≠ L := ne_of_none e hL
        rw [upd_ne hb]
        exact e3 b o e
  · refine .inl ⟨⟨_, SqL.of (e3 _ _ hl), by simp [hsz]; omega⟩, ?_⟩
    have h12 : i = 12 := by omega
    subst h12
    rw [List.take_of_length_le (by omega)] at e4
    refine ⟨L, _, rfl, SqL.of e4, rfl, ?_⟩
    have e5 : decide (V.int (((flg D).map fun b => if b = true then (1 : Int) else 0).sum) = V.int 1) = decide (((flg D).map fun b => if b = true then (1 : Int) else 0).sum = 1) := by
      congr 1
      simp only [V.int.injEq]
    rw [e5]
    exact ⟨_, rfl, hq H' e3⟩
/-- the last row: ("error", kinds[flags.index(True)]) -/
theorem ps_last (T : TmX U L Γ X C D p) {st : Stmt} (h : shRet2 Γ st = true) : PS X st (fun E σ H => ∃ a b, σ[1]? = some (some (.ref a)) ∧ H a = some (.lst ((flg D).map V.bl)) ∧ σ[2]? = some (some (.ref b)) ∧ H b = some (.lst (exN.map V.str)) ∧ ∀ t o, H t = none → o.dict = none → E.rt (.ref t) (upd H t (.frz o (.tup [.str "error", .str (exS D)])))) := by
  unfold shRet2 at h
  split at h
  rotate_left
  · cases h
  simp only [Bool.and_eq_true, decide_eq_true_eq] at h
  obtain ⟨⟨⟨⟨⟨⟨⟨h1, rfl⟩, rfl⟩, rfl⟩, rfl⟩, hln⟩, v2⟩, v1⟩ := h
  obtain ⟨a0, a1, a2, a3⟩ := T.at_.v v2
  obtain ⟨b0, b1, b2, b3⟩ := T.at_.v v1
  refine (ps_ret (pe_tupB (pa_cons (st_one h1).1 (pa_cons (pe_ix ix_list (pe_var a0 a1 a2 a3) (pe_bm F.plainAttrs_list F.slot_list_index (by first | rfl | kernel_rfl) mt_index (pe_var b0 b1 b2 b3) (pa_cons pe_bl pa_nil rfl) rfl rfl hln rfl rfl) (plainIx_of rfl)) pa_nil rfl) ((st_one h1).2.2 _)))).imp fun E σ H ⟨a, b, h1, h2, h3, h4, h5⟩ => ?_
  have hD := T.hD
  have hsz : (flg D).length = 12 := by simp [flg]
  have hfl : ((flg D).map V.bl).all flatV = true := by
    rw [List.all_map, List.all_eq_true]
    intro x _
    rfl
  have hat : ∀ m, m < 12 → ((flg D).map V.bl)[m]? = some (.bl (decide (D = m))) := fun m hm => by
    unfold flg
    rw [List.map_map, List.getElem?_map, List.getElem?_range hm]
    rfl
  refine ⟨_, h3, _, h1, .inl ⟨rfl, _, SqL.of h2⟩, a, (flg D).map V.bl, .bl true, D, .bl true, rfl, rfl, SqL.of h2, rfl, hfl, ?_, rfl, ?_, b, exN.map V.str, (D : Int), .str (exS D), rfl, rfl, SqL.of h4, ?_, ?_, h5⟩
  · rw [hat D hD]; simp
  · intro m z hm hz
    rw [hat m (by omega)] at hz
    cases hz
    have : D ≠ m := by omega
    simp [this, eqV]
  · unfold atI ixN
    rw [if_pos (by omega), if_pos (by show (D : Int) < _; have : (exN.map V.str).length = 12 := by simp [exN]
                                      rw [this]; omega)]
    show (exN.map V.str)[(D : Int).toNat]? = _
    rw [Int.toNat_natCast, List.getElem?_map]
    unfold exS
    have : D < exN.length := by simp [exN]; omega
    rw [List.getElem?_eq_getElem this, List.getD_eq_getElem?_getD, List.getElem?_eq_getElem this]
    rfl
  · show 2 ≤ sizeLine; rw [sizeLine_eq]; omega
end
end G
end
section
set_option Elab.async false
set_option linter.all false
set_option maxRecDepth 100000
set_option maxHeartbeats 2000000
/-! _law_term as a whole -/
namespace G
open PySem PySem.Spec PyProof.Rows L2 L2H HotX
theorem shIs_self {Γ : Ga} {C : Str} {e : Expr} (h : shIs Γ C e = true) : ∃ i q1 x q2 c q3 q4, e = .Call (.Name i q1) [.Name x q2, .Name c q3] [] q4 := by
  unfold shIs at h
  split at h
  · exact ⟨_, _, _, _, _, _, _, rfl⟩
  · cases h
section
variable {U : Wd} {L : Nat} {X : Cx} {Γ : Ga} {C : Nat → Addr} {D : Nat} {p : Addr × Obj}
theorem flg_bl {D : Nat} : bl3 D 0 ++ bl3 D 3 ++ bl3 D 6 ++ bl3 D 9 = (flg D).map V.bl := rfl
theorem flg_one {D : Nat} (h : D < 12) : ((flg D).map fun b => if b = true then (1 : Int) else 0).sum = 1 := by
  have : ∀ D, D < 12 → ((flg D).map fun b => if b = true then (1 : Int) else 0).sum = 1 := by decide
  exact this D h
theorem ps_cond (T : TmX U L Γ X C D p) {st : Stmt} (h : shIf Γ st = true) : PS X st (fun E σ H => ∃ a, 3 < σ.length ∧ σ[0]? = some (some (.ref p.1)) ∧ σ[1]? = some (some (.ref a)) ∧ H a = some (.lst ((flg D).map V.bl)) ∧ ∀ H', (∀ b o, H b = some o → H' b = some o) → E.nx σ H') := by
  unfold shIf at h
  split at h
  rotate_left
  · cases h
  simp only [Bool.and_eq_true] at h
  obtain ⟨⟨h1, h2⟩, h3⟩ := h
  obtain ⟨tr, hr⟩ := ret_one (X := X) h3
  obtain ⟨i, q1, x, q2, c, q3, q4, rfl⟩ := shIs_self h2
  refine (ps_if (pw_or (pt_sum T h1) (pw_or1 (pt_not (pt_val (is_ve T h2) (fun _ => rfl))))).pt hr pss_nil).imp fun E σ H ⟨a, hl, h0, h1, h4, hq⟩ => ?_
  refine ⟨a, hl, h1, h4, fun H' hk => ?_⟩
  rw [flg_one T.hD]
  show (if (!decide ((1 : Int) = 1)) = true then _ else _)
  rw [if_neg (by simp)]
  refine ⟨h0, true, rfl, ?_⟩
  show (if (!true) = true then _ else _)
  rw [if_neg (by simp)]
  exact hq H' hk
theorem term_body (T : TmX U L Γ X C D p) {st : List Stmt} (h : shTerm Γ st = true) {Q : VK} {H : Hp} (hN : X.N = (["_law_e", "_law_flags", "_law_kinds", "_law_flag"] : List Str))
    (hQ : ∀ t H' ob, (∀ b o, H b = some o → H' b = some o) → H t = none → ob.dict = none → H' t = some (.frz ob (.tup [.str "error", .str (exS D)])) → Q (.ref t) H') : ∃ t, PSs X st t ∧ t { nx := fun _ H' => Q .non H', rt := Q } (start X.N [.ref p.1]) H := by
  unfold shTerm at h
  split at h
  rotate_left
  · cases h
  simp only [Bool.and_eq_true] at h
  obtain ⟨⟨⟨⟨⟨⟨⟨h1, h2⟩, h3⟩, h4⟩, h5⟩, h6⟩, h7⟩, h8⟩ := h
  refine ⟨_, pss_cons (ps_fst T h1 (fun e he => ⟨is_three T (by omega) he, fun tg ln => sw3 he _ _ _⟩)) (pss_cons (ps_catL T h2 (fun e he => is_three T (by omega) he)) (pss_cons (ps_catL T h3 (fun e he => is_three T (by omega) he)) (pss_cons (ps_catL T h4 (fun e he => is_three T (by omega) he))
    (pss_cons (ps_fst T h5 (fun e he => ⟨st_six he, fun tg ln => sw6 he _ _ _⟩)) (pss_cons (ps_catL T h6 (fun e he => st_six he)) (pss_cons (ps_cond T h7) (pss_one (ps_last T h8)))))))), ?_⟩
  rw [hN]
  have big : ∀ n : Nat, n ≤ 20 → n ≤ sizeLine := fun n hn => by rw [sizeLine_eq]; omega
  refine ⟨rfl, fun q1 n1 => ?_⟩
  refine ⟨_, rfl, rfl, fun q2 n2 => ⟨q1, q2, _, _, rfl, rfl, (by rw [upd_ne (ne_of_none upd_same n2)]; exact upd_same), upd_same, big _ (by show 6 ≤ 20; omega), fun q3 n3 => ?_⟩⟩
  refine ⟨_, rfl, rfl, fun q4 n4 => ⟨q3, q4, _, _, rfl, rfl, (by rw [upd_ne (ne_of_none upd_same n4)]; exact upd_same), upd_same, big _ (by show 9 ≤ 20; omega), fun q5 n5 => ?_⟩⟩
  refine ⟨_, rfl, rfl, fun q6 n6 => ⟨q5, q6, _, _, rfl, rfl, (by rw [upd_ne (ne_of_none upd_same n6)]; exact upd_same), upd_same, big _ (by show 12 ≤ 20; omega), fun q7 n7 => ?_⟩⟩
  have up7 := fun b o (e : H b = some o) => up_new (o := .lst (bl3 D 0 ++ bl3 D 3 ++ bl3 D 6 ++ bl3 D 9)) n7 b o (up_new n6 b o (up_new n5 b o (up_new n4 b o (up_new n3 b o (up_new n2 b o (up_new n1 b o e))))))
  intro q8 n8
  refine ⟨_, rfl, fun q9 n9 => ⟨q8, q9, _, _, rfl, rfl, (by rw [upd_ne (ne_of_none upd_same n9)]; exact upd_same), upd_same, big _ (by show 12 ≤ 20; omega), fun q10 n10 => ?_⟩⟩
  have hfl : ∀ {o8 o9 o10 : HO} {K7 : Hp}, K7 q7 = some (.lst ((flg D).map V.bl)) → K7 q8 = none → (upd K7 q8 o8) q9 = none → (upd (upd K7 q8 o8) q9 o9) q10 = none → upd (upd (upd K7 q8 o8) q9 o9) q10 o10 q7 = some (.lst ((flg D).map V.bl)) := fun e a b c => up_new c _ _ (up_new b _ _ (up_new a _ _ e))
  have e7 := hfl (o8 := .lst (st6 0)) (o9 := .lst (st6 6)) (o10 := .lst (st6 0 ++ st6 6)) (upd_same (o := HO.lst ((flg D).map V.bl))) n8 n9 n10
  refine ⟨q7, by simp [L2.start], rfl, rfl, e7, fun H' hk => ⟨q7, q10, rfl, hk _ _ e7, rfl, hk _ _ upd_same, fun t ob ht hob => ?_⟩⟩
  have all : ∀ b o, H b = some o → H' b = some o := fun b o e => hk b o (up_new n10 b o (up_new n9 b o (up_new n8 b o (up7 b o e))))
  refine hQ t _ ob (fun b o e => up_new ht b o (all b o e)) ?_ hob upd_same
  cases e : H t with
  | none => rfl
  | some o => rw [all t o e] at ht; cases ht
end
end G
end
section
set_option Elab.async false
set_option linter.all false
set_option maxRecDepth 100000
set_option maxHeartbeats 2000000
/-! a lambda without parameters, made in a def of ours and called in another -/
namespace G
open PySem PySem.Spec PyProof.Rows L2
/-- all but the tables stay; what is there stays there -/
structure Grow (T : List (Addr × Str)) (H H' : Hp) : Prop where
  ext : ∀ b o, H b = some o → (∀ p ∈ T, p.1 ≠ b) → H' b = some o
  there : ∀ a, H a ≠ none → H' a ≠ none
section
variable {X : Cx} {pins : List (Addr × Obj)} {σ : L2.St} {H : Hp} {s : Shared}
abbrev lamQ (X : Cx) : Str := X.env.qual ++ "<lambda>"
abbrev lamOb (X : Cx) (params : Arguments) (body : Expr) (scope : Scope) (pm : Value) (c' : Addr) (ctv : Value) : Obj := PySem.W.kla_obj "<lambda>" (lamQ X) params body scope (cloFrom X.env.cells scope.names []) pm c' ctv
/-- the lambda is made -/
theorem lam_mk {T : List (Addr × Str)} {c P : Addr} {params : Arguments} {body : Expr} {scope : Scope} {pos : Pos} {E Q : Value → Shared → Prop} (I : Inv X pins σ H s) (TB : LamX.TabB X.base X.mg c P) (hcode : X.env.code = .ref c)
    (hm : (P, lamQ X) ∈ T) (hu : ∀ p ∈ T, p.1 = P → p.2 = lamQ X) (hT : LamX.Tabs T H) (hdef : defaultsOf params X.env = ([], [])) (hfree : ∀ y ∈ scope.names, y.2 = .free → ∃ c, X.env.cells.lookup y.1 = some c)
    (h : ∀ (f c' : Addr) (pm ctv : Value) (H1 : Hp) (s' : Shared), Inv X pins σ H1 s' → Grow T H H1 → LamX.Tabs T H1 → s'.heap.get? f = some (lamOb X params body scope pm c' ctv) → H1 f = none → f ∉ frs X.stack → H1 c' = some (LamX.CodeO c' (lamQ X)) → Q (.ref f) s') :
    wpAny (model X.prog X.w) X.A (eval (.Lambda params body scope pos) X.env) Q E s := by
  obtain ⟨ps, hP, ht, ha⟩ := hT _ hm
  refine PySem.W.kla_eval hdef ?_
  have bP : s.heap.BuiltinsAt X.mg P := TB.bm.keeps I.bk
  have hP' : s.heap.get? P = some { cls := .none, data := .fields ps } := I.hok P _ hP
  have nofr : ∀ f, s.heap.objs.size ≤ f → f ∉ frs X.stack := fun f hf z => by
    rcases List.mem_cons.mp (I.stkSub _ z) with e | e
    · have h1 := I.lt
      rw [← e] at h1
      exact absurd (Nat.lt_of_lt_of_le h1 hf) (Nat.lt_irrefl _)
    · exact I.nofs hf e
  cases hc : codeAmong pos ps.toList with
  | none =>
    refine PySem.W.kla_makeFunction (mg := X.mg) (c := c) (P := P) (ps := ps) (closure_ok hfree) I.ok.glob (I.mod.glob.keeps I.bk) hcode (TB.code.keeps I.bk) hP' ht hc TB.gP bP fun c' ctv h' tk hx hge hlt hrec htb => ?_
    obtain ⟨c2, oc, vs, t, e2, hoc, hd, hv⟩ := hrec
    cases e2
    have hsz : s.heap.objs.size ≤ h'.objs.size := Nat.le_trans hge (Nat.le_of_lt hlt)
    have nC : H c' = none := I.hok.fresh hge
    have I1 := LamX.inv_table (t' := tk) (more := #[rawInt pos.line, rawInt pos.col, .ref c']) (h' := h'.push (lamOb X params body scope ((X.mg "__name__").getD .none) c' ctv)) I hP
      (fun b o hb e => Heap.get?_push_of_some _ (hx b o hb e)) (Heap.get?_push_of_some _ htb) hge ⟨oc, vs, t, Heap.get?_push_of_some _ hoc, hd, hv⟩
    generalize hH1 : upd (upd H P (.tbl (ps ++ #[rawInt pos.line, rawInt pos.col, .ref c']))) c' (LamX.CodeO c' (lamQ X)) = H1 at I1
    have a1 : ∀ b, b ≠ P → b ≠ c' → H1 b = H b := fun b h1 h2 => by rw [← hH1, upd_ne h2, upd_ne h1]
    have aP : H1 P = some (.tbl (ps ++ #[rawInt pos.line, rawInt pos.col, .ref c'])) := by rw [← hH1, upd_ne (ne_of_none hP nC), upd_same]
    have aC : H1 c' = some (LamX.CodeO c' (lamQ X)) := by rw [← hH1, upd_same]
    have hE : LamX.ExtN H H1 := fun b o e n => by
      rw [a1 b (fun z => n ps (Option.some.inj (e.symm.trans (by rw [z]; exact hP)))) (ne_of_none e nC)]
      exact e
    have eL : (ps ++ #[rawInt pos.line, rawInt pos.col, .ref c']).toList = ps.toList ++ [rawInt pos.line, rawInt pos.col, .ref c'] := by simp
    refine h h'.objs.size c' ((X.mg "__name__").getD .none) ctv H1 _ I1 ⟨fun b o e n => by
      rw [a1 b (fun z => n _ hm z.symm) (ne_of_none e nC)]
      exact e, fun a n => ?_⟩ (fun p hp => ?_) (Heap.get?_push_size _ rfl) ?_ (nofr _ hsz) aC
    · by_cases h1 : a = P
      · rw [h1, aP]; simp
      · by_cases h2 : a = c'
        · rw [h2, aC]; simp
        · rw [a1 a h1 h2]; exact n
    · by_cases hb : p.1 = P
      · rw [hu p hp hb, hb]
        refine ⟨_, aP, by rw [eL]; exact PySem.TriplesOk_snoc _ _ _ _ ht, fun p' cv hcv => ?_⟩
        rw [eL] at hcv
        rcases LamX.among_app _ ht hcv with z | z
        · obtain ⟨c0, e1, e2⟩ := ha p' cv z
          exact ⟨c0, e1, hE _ _ e2 LamX.codeO_ne⟩
        · exact ⟨c', z, aC⟩
      · obtain ⟨ps', b1, b2, b3⟩ := hT p hp
        refine ⟨ps', by rw [a1 _ hb (ne_of_none b1 nC)]; exact b1, b2, fun p' cv hcv => ?_⟩
        obtain ⟨c0, e1, e2⟩ := b3 p' cv hcv
        exact ⟨c0, e1, hE _ _ e2 LamX.codeO_ne⟩
    · rw [a1 _ (Nat.ne_of_gt (Nat.lt_of_lt_of_le (Heap.lt_size hP') hsz)) (Nat.ne_of_gt hlt)]
      exact I.hok.fresh hsz
  | some cv =>
    obtain ⟨c', e, hco⟩ := ha pos cv hc
    subst e
    refine PySem.W.kla_makeFunctionHit (mg := X.mg) (c := c) (P := P) (ps := ps) (closure_ok hfree) I.ok.glob (I.mod.glob.keeps I.bk) hcode (TB.code.keeps I.bk) hP' ht hc bP fun ctv h' tk hx hsz => ?_
    have I1 : Inv X pins σ H { s with heap := h'.push (lamOb X params body scope ((X.mg "__name__").getD .none) c' ctv), toks := tk } := I.kept fun b o e => Heap.get?_push_of_some _ (hx b o e)
    exact h h'.objs.size c' ((X.mg "__name__").getD .none) ctv H _ I1 ⟨fun _ _ e _ => e, fun _ n => n⟩ hT (Heap.get?_push_size _ rfl) (I.hok.fresh hsz) (nofr _ hsz) hco
/-- the frame of the lambda's body -/
abbrev lamX (X : Cx) (A : Around) (outer : List PySem.Env) (s : Shared) (H : Hp) (E : XK) (scope : Scope) (f c' : Addr) : Cx :=
  (LamX.lamCx X A outer s H E scope f c').tr [] (fun e s' => wpAny (model X.prog X.w) (A.deeper (LamX.lamEnv X scope s.heap.objs.size f c')) (leaving (LamX.lamEnv X scope s.heap.objs.size f c') e) (fun _ s'' => L2N.CX X.prog X.w outer H s E e s'') (fun e' s'' => L2N.CX X.prog X.w outer H s E e' s'') s')
/-- a(), in the def that got the lambda -/
theorem lam_act {CXg : CXT} {Eg : XK} {Ng : List Str} {qg : Str} {sg : Scope} {g f c' : Addr} {cdg pm ctv : Value} {params : Arguments} {body : Expr} {scope : Scope} {k i : Nat} {a : Str} {pn : List (Addr × Obj)} {xe : Value → Shared → Prop} {W : WX} {E : XK} {tb : TE} {p1 p2 : Pos}
    (I : Inv X pins σ H s) (L : LamX.LamS X.env.scope scope) (hf : s.heap.get? f = some (lamOb X params body scope pm c' ctv)) (hfn : H f = none) (hfr : f ∉ frs X.stack)
    (hbind : bindArgs (PySem.W.kla_fn "<lambda>" (lamQ X) params body scope (cloFrom X.env.cells scope.names []) pm (.ref c') ctv) ⟨[], []⟩ = pure [])
    (tk : L2N.Takes ((cxOf CXg X.prog X.w X.K X.mg X.base Ng qg sg g cdg X.A X.stack s H Eg).tr pn xe) W) (hW : ∀ cls d σ' H', E cls d H' → W cls d σ' H') (hr : Room (k + 1) (X.A.deeper (envOfC qg sg s.heap.objs.size g cdg)))
    (hbody : ∀ (A : Around) (outer : List PySem.Env) (s : Shared) (H : Hp), Room k (A.deeper (LamX.lamEnv X scope s.heap.objs.size f c')) → PE (lamX X A outer s H E scope f c') body tb)
    (hN : Ng[i]? = some a) (hv : Vis sg a) (hd : (a == ("__debug__" : Str)) = false) (hcd : (a == ("__classdict__" : Str)) = false) :
    PE ((cxOf CXg X.prog X.w X.K X.mg X.base Ng qg sg g cdg X.A X.stack s H Eg).tr pn xe) (.Call (.Name a p1) [] [] p2) (fun σZ HZ Q => σZ[i]? = some (some (.ref f)) ∧ HZ c' = some (LamX.CodeO c' (lamQ X)) ∧ tb σ HZ Q) := by
  refine ⟨fun pinsZ sZ σZ HZ Q IZ h => ?_⟩
  obtain ⟨hs, hc, ht⟩ := h
  refine wpAny_Call_Name_kw (thn ((pe_var (pos := p1) (i := i) hN hv hd hcd).run pinsZ sZ σZ HZ (fun v H1 => v = .ref f ∧ H1 = HZ) IZ ⟨.ref f, hs, rfl, rfl⟩) fun u s1 ⟨v, H1, I1, r1, q1⟩ => ?_)
  obtain ⟨ev, eH⟩ := q1
  subst ev
  rw [eH] at I1
  obtain rfl : u = Value.ref f := r1
  have of1 : s1.heap.get? f = some (lamOb X params body scope pm c' ctv) := I1.base.keep f _ hf hfn hfr (fun z => nomatch (show f ∈ ([] : List Addr) from z))
  refine PySem.W.callWith_F0 ⟨_, _, _, _, of1⟩ ?_
  have un : Un (frs X.stack) [] H HZ s.heap s1.heap := I1.base
  obtain ⟨⟨oc, vs, t, hoc, hdc, hvc⟩, _, _⟩ := I1.hok c' _ hc
  have rc : codeAny (model X.prog X.w) (X.A.deeper (envOfC qg sg s.heap.objs.size g cdg)) (.call (.ref f) ⟨[], []⟩) (CR (L2N.CX X.prog X.w) (envOfC qg sg s.heap.objs.size g cdg :: X.stack) X.prog X.w HZ s1 Q E) s1 := by
    refine PySem.W.kla_callFunE hr.depth of1 rfl L.co L.gen rfl ⟨c', oc, vs, t, rfl, hoc, hdc, hvc⟩ ?_
    rw [hbind]
    refine wpAny_pure (wpAny_newFunctionEnv (fun y hy => (L.own y hy).2) (fun y hy => absurd hy (by simp)) (fun h₁ hns hsb => ⟨I1.nolimit.fresh _ hsb, ?_⟩) L.kind)
    show codeAny _ _ (.expr body (LamX.lamEnv X scope s1.heap.objs.size f c')) _ _
    have kp : ∀ b o, s1.heap.get? b = some o → h₁.get? b = some o := fun b o e => hsb.extBut b o (Nat.ne_of_lt (Heap.lt_size e)) (Heap.get?_push_of_some _ e)
    have J0 := LamX.lam_start2 (A := X.A.deeper (envOfC qg sg s.heap.objs.size g cdg)) (outer := envOfC qg sg s.heap.objs.size g cdg :: X.stack) (E := E) (f := f) (c' := c') (tk := s1.toks + ([] : List (Str × Value)).length) I L I1.env0 hr.hd un hns kp
    have J : Inv (lamX X (X.A.deeper (envOfC qg sg s.heap.objs.size g cdg)) (envOfC qg sg s.heap.objs.size g cdg :: X.stack) s1 HZ E scope f c') [] σ HZ { s1 with heap := h₁, toks := s1.toks + ([] : List (Str × Value)).length } := J0.toTry _
    refine PySem.W.kla_codeExpr (wpAny_mono ((hbody _ _ s1 HZ (hr.deeper _)).run [] _ _ HZ Q J ht) (fun v s' hq => ?_) fun e s' hq => hq)
    obtain ⟨w', H', J', rv, q⟩ := hq
    exact ⟨w', H', J'.os, J'.bare, J'.base, J'.hok, rv, q⟩
  have hx := L2N.passes_call (E := E) tk hW
  refine wpAny_call (codeAny_mono rc fun r s' hq => ?_)
  cases r with
  | error e => exact hx pinsZ σZ HZ s1 e s' I1 hq
  | ok fl =>
    cases fl with
    | ret u => exact I1.after hq
    | next => exact False.elim hq
    | brk => exact False.elim hq
    | cont => exact False.elim hq
end
end G
end
section
set_option Elab.async false
set_option linter.all false
set_option maxRecDepth 100000
set_option maxHeartbeats 2000000
/-! _law_told -/
namespace G
open PySem PySem.Spec PyProof.Rows L2 L2H HotX
def shTold (Γ : Ga) : List Stmt → Bool
  | [.Try [.Return (some (.Call (.Name a _) [] [] _)) _] [.ExceptHandler (some (.Name e _)) (some n) [.Return (some (.Call (.Name tm _) [.Name n2 _] [] _)) _] _] [] [] _] =>
    decide (a = "_law_deed") && decide (e = "DiffError") && decide (n = "_law_e") && decide (tm = "_law_term") && decide (n2 = "_law_e") && nameV Γ 0 "_law_deed" && nameG Γ "DiffError" && nameV Γ 1 "_law_e" && decide (Γ.sc.names.lookup ("_law_e" : Str) = some NameKind.local) && nameG Γ "_law_term"
  | _ => false
def Df.ga (d : Df) : Ga := ⟨d.N, defScope d.st, none, false⟩
def chkTold (d : Df) : Bool := decide (d.x = "_law_told") && scopeC d.N d.ps (defScope d.st) && decide (d.N = (["_law_deed", "_law_e"] : List Str)) && decide (d.code.pars = 1) && shTold d.ga (defBody d.st)
def chkTerm (d : Df) : Bool := decide (d.x = "_law_term") && scopeC d.N d.ps (defScope d.st) && decide (d.N = (["_law_e", "_law_flags", "_law_kinds", "_law_flag"] : List Str)) && decide (d.code.pars = 1) && shTerm d.ga (defBody d.st)
structure ToldOk (U : Wd) : Prop where
  told : ∃ d, DfOk U d ∧ chkTold d = true
  term : ∃ d, DfOk U d ∧ chkTerm d = true
  cls : ClsF U.M.K U.mg U.M.ec
  de : ∃ CS, U.mg "DiffError" = some (.ref CS) ∧ ∀ k, k < 12 → PySem.W.exmOne U.M.K (.ref (U.M.ec k)) (.ref CS) = some true
  fre : ∀ x ∈ (["isinstance", "ValueError", "sum", "int"] : List Str), U.mg x = none
/-- an error's name, in a tuple at t -/
def ErrAt (k : Nat) (H : Hp) (Q : VK) : Prop := ∀ t H' ob, (∀ b o, H b = some o → H' b = some o) → H t = none → ob.dict = none → H' t = some (.frz ob (.tup [.str "error", .str (exS k)])) → Q (.ref t) H'
section
variable {U : Wd} {X : Cx}
theorem term_call (T : ToldOk U) (eP : X.prog = U.P) (ew : X.w = U.w) (eK : X.K = U.M.K) (em : X.mg = U.mg) (eb : X.base = U.base) {p : Addr × Obj} {k : Nat} (hot : Hot1 X.A p) (hp : p ∈ X.pn) (hk : k < 12) (hz : Zc (.ref (U.M.ec k)) none p.2) (hr : RoomH 1 X.A)
    (hg : Gl X "_law_term") (h0 : X.N[1]? = some ("_law_e" : Str)) (h1 : Vis X.env.scope "_law_e") {q1 q2 q3 : Pos} :
    PE X (.Call (.Name "_law_term" q1) [.Name "_law_e" q2] [] q3) (fun σ H Q => σ[1]? = some (some (.ref p.1)) ∧ ErrAt k H Q) := by
  obtain ⟨d, D, hc⟩ := T.term
  obtain ⟨f, fd, F1, hm, hb, _⟩ := D.ex
  unfold chkTerm at hc
  simp only [Bool.and_eq_true, decide_eq_true_eq] at hc
  obtain ⟨⟨⟨⟨hx, hs⟩, hN⟩, hpr⟩, hsh⟩ := hc
  have hps : d.ps = (["_law_e"] : List Str) := by unfold Df.ps; rw [hN, hpr]; rfl
  have S := scope_ok hs
  have kp := F1.kp
  obtain ⟨oc, od, dV, kV, doc, pm, an, cdv, ct, osl, efd, lk, hcd, _, _⟩ := F1.ex
  rw [efd] at lk
  refine ⟨fun pins s σ H Q I ⟨hs1, hq⟩ => ?_⟩
  refine wpAny_Call_Name_kw (ld_glob I hg (by rw [em, ← hx]; exact hm) ?_ (by decide))
  refine PySem.W.callWith_K (h₀ := X.base) I.ok.mod.kin (by rw [eK]; exact kp) (thn ((pa_cons (pe_var (pos := q2) h0 h1 (by decide) (by decide)) pa_nil rfl).run q3 pins s σ H (fun vs H1 => vs = [V.ref p.1] ∧ H1 = H) I ⟨_, hs1, rfl, rfl⟩) fun us s1 ⟨vs, H1, I1, r, e1, e2⟩ => ⟨I1.kIn, ?_⟩) rfl rfl
  subst e1 e2
  have P1 := I1.pin p (List.mem_append_left _ hp)
  have hpin : PinOk X.stack H1 s1 p := ⟨P1.1, P1.2.1, fun hm => (List.mem_cons.mp (I1.stkSub p.1 hm)).elim P1.2.2.1 P1.2.2.2.1, P1.2.2.2.2⟩
  have hl : us.length = 1 := by rw [← r.length]; rfl
  have e0 := I1.env0
  rw [eP, ew, eK, em, eb] at e0
  have lim : s1.heap.NoLimit := e0.mod.nolimit.keeps fun b o e => (e0.bs b o e).1
  have KX : U.M.K.In s1.heap := e0.mod.kin.keeps fun b o e => (e0.bs b o e).1
  have bnd := hb s1 us KX (by rw [hps, List.append_nil, hl]; rfl)
  rw [List.append_nil, hps, efd] at bnd
  have hkind : ∀ y ∈ (["_law_e"] : List Str).zip us, (defScope d.st).names.lookup y.1 = some .local ∨ ((defScope d.st).names.lookup y.1 = some .cell ∧ ((cellsFrom (s1.heap.objs.size + 1) (defScope d.st).names []).lookup y.1).isSome = true) := fun ⟨n, v⟩ hy => by
    rcases S.par n (by rw [hps]; exact (List.of_mem_zip hy).1) with q | q
    · exact .inl q
    · exact .inr ⟨q, PySem.W.cellsFrom_some _ _ _ (.inl q)⟩
  have rc : codeAny (model U.P U.w) X.A (.call (.ref f) ⟨us, []⟩) (CR C8.CX0 X.stack U.P U.w H1 s1 Q C8.E0) s1 := by
    refine codeAny_call_function hr.depth (KX _ _ lk) rfl S.co S.gen rfl (PySem.W.codeRec_of KX hcd) (bnd _ _ _ _ ?_)
    refine wpAny_newFunctionEnv_cells S.kind hkind fun env he s2 x => ?_
    subst he
    refine ⟨lim.keeps x.toInCall.keep, codeAny_func ?_⟩
    have J : Inv (cxH C8.CX0 U.P U.w U.M.K U.mg U.base d.N d.x (defScope d.st) f cdv X.A X.stack s1 H1 C8.E0 p) [] (L2.start d.N [V.ref p.1]) H1 s2 := inv_startH (ps := ["_law_e"]) (by rw [← hps]; exact S) hpin e0 rfl r x
    have TX : TmX U 0 d.ga (cxH C8.CX0 U.P U.w U.M.K U.mg U.base d.N d.x (defScope d.st) f cdv X.A X.stack s1 H1 C8.E0 p) U.M.ec k p :=
      ⟨⟨rfl, rfl, fun _ => rfl, fun z => by cases z⟩, T.cls, hk, List.mem_singleton.mpr rfl, hz, ⟨_, hot.2.choose_spec.1⟩, ⟨p, hot, List.mem_singleton.mpr rfl⟩, S.nd, S.kind, T.fre⟩
    obtain ⟨t, ht, hq2⟩ := term_body TX hsh hN hq
    refine wpAny_mono (ht.run [] s2 _ H1 _ J hq2) (fun fl s' hs => ?_) fun e s' hs => hs
    have fin : ∀ {σ' : L2.St} {H' : Hp} {v : V} {u : Value}, Inv (cxH C8.CX0 U.P U.w U.M.K U.mg U.base d.N d.x (defScope d.st) f cdv X.A X.stack s1 H1 C8.E0 p) [] σ' H' s' → RelV v u → Q v H' → CE X.stack U.P U.w H1 s1 Q u s' := fun {σ' H' v u} J rv q => ⟨v, H', J.os, J.bare, J.base, J.hok, rv, q⟩
    cases fl with
    | ret u =>
      obtain ⟨v, σ', H', J, rv, q⟩ := hs
      exact fin J rv q
    | next =>
      obtain ⟨σ', H', J, q⟩ := hs
      exact fin (v := V.non) (u := Value.none) J rfl q
    | brk =>
      obtain ⟨_, _, _, q⟩ := hs
      exact False.elim q
    | cont =>
      obtain ⟨_, _, _, q⟩ := hs
      exact False.elim q
  rw [← eP, ← ew] at rc
  refine wpAny_call (codeAny_mono rc fun r s' hq => ?_)
  cases r with
  | error e => exact (show False from hq).elim
  | ok fl =>
    cases fl with
    | ret u => exact I1.after hq
    | next => exact False.elim hq
    | brk => exact False.elim hq
    | cont => exact False.elim hq
theorem takes_len {X : Cx} {W : WX} (tk : L2N.Takes X W) : L2N.Takes X (fun c d σ H => σ.length = X.N.length → W c d σ H) := fun u s' ⟨a, B, sI, pins, σ, H, cls, d, e, I, nb, up, sky, na, os, ag, w⟩ =>
  tk u s' ⟨a, B, sI, pins, σ, H, cls, d, e, I, nb, up, sky, na, os, ag, w I.len⟩
theorem takesN0 {X : Cx} : L2N.Takes X (fun _ _ _ _ => False) := fun _ _ x => by
  obtain ⟨_, _, _, _, _, _, _, _, _, _, _, _, _, _, _, _, z⟩ := x
  exact z.elim
theorem noTab {M : Mw} {g : Gh} {H : Hp} {s : Sto} (w : WOk M g H s) {a : Addr} {o : HO} (h : H a = some o) (ho : ∀ ps, o ≠ .tbl ps) : ∀ p ∈ M.T, p.1 ≠ a := fun p hp z => by
  obtain ⟨ps, e, _⟩ := w.tabs p hp
  rw [z, h] at e
  exact ho ps (Option.some.inj e)
theorem Grow.wok {M : Mw} {g : Gh} {H H1 : Hp} {s : Sto} (gr : Grow M.T H H1) (w : WOk M g H s) (T1 : LamX.Tabs M.T H1) : WOk M g H1 s where
  sub := fun a o e => gr.ext a o (w.sub a o e) fun p hp z => by
    have := w.ntab p hp
    rw [z, e] at this
    cases this
  dan := gr.there _ w.dan
  ban := gr.there _ w.ban
  dice := fun c m e => by
    obtain ⟨h1, h2⟩ := w.dice c m e
    exact ⟨gr.ext _ _ h1 (noTab w h1 (fun ps z => by cases z)), h2⟩
  book := w.book
  tabs := T1
  ntab := w.ntab
theorem Grow.le {M : Mw} {g : Gh} {H H1 : Hp} {s : Sto} (gr : Grow M.T H H1) (w : WOk M g H s) : Le g H g H1 where
  fr := Sub.refl _
  new := fun _ _ e => .inl e
  keep := fun a o e _ _ ho => gr.ext a o e (noTab w e ho)
  there := gr.there
  da := rfl
  ba := rfl
theorem Grow.sok {M : Mw} {g : Gh} {H0 H H1 : Hp} {s : Sto} {σ : L2.St} {δ : G.Env} (gr : Grow M.T H H1) (w : WOk M g H s) (so : SOk M g H0 H σ δ) : SOk M g H0 H1 σ δ where
  len := so.len
  w := so.w
  own := fun i ds e => by
    obtain ⟨a, vs, t1, t2, t3, t4, t5, t6⟩ := so.own i ds e
    exact ⟨a, vs, t1, gr.ext _ _ t2 (noTab w t2 (fun ps z => by cases z)), t3, t4, t5, t6⟩
  ownd := fun i ds e => by
    obtain ⟨a, vs, t1, t2, t3, t4, t5, t6⟩ := so.ownd i ds e
    exact ⟨a, vs, t1, gr.ext _ _ t2 (noTab w t2 (fun ps z => by unfold DX at z; cases z)), t3, t4, t5, t6⟩
  apart := so.apart
/-- a new tuple, and more of no one's -/
theorem err_ok {M : Mw} {E : XK} {g : Gh} {H : Hp} {s : Sto} {Q : VK} {k : Nat} {n : List Nat} (w : WOk M g H s) (hk : exNm[k]? = some n) (q : Post M E (.ok (.d (.tup [errD, .str n])) s) g H Q) : ErrAt k H Q := fun t H' ob hk2 ht hob h' => by
  have he : sS n = exS k := by
    have : ∀ k n, exNm[k]? = some n → sS n = exS k := by
      intro k n h
      have hlt : k < 12 := (List.getElem?_eq_some_iff.mp h).1
      have e : n = exNm[k]'(by exact hlt) := by
        have := (List.getElem?_eq_some_iff.mp h).2
        exact this.symm
      subst e
      have all : ∀ j : Fin 12, sS (exNm[j.1]'(by exact j.2)) = exS j.1 := by decide +kernel
      exact all ⟨k, hlt⟩
    exact this k n hk
  have hs : sS [101, 114, 114, 111, 114] = ("error" : Str) := by decide +kernel
  have hF : g.F t = none := w.free ht
  refine q (.ref t) (g.add t (.frz ob (.tup [.str "error", .str (exS k)]))) H' ⟨Sub.upd hF, fun a o e => ?_, fun a o e _ _ _ => hk2 a o e, fun a e => ?_, rfl, rfl⟩ ⟨fun a o e => ?_, ?_, ?_, fun c m e => ?_, w.book, w.tabs.ext hk2, fun p hp => ?_⟩ ⟨t, _, rfl, sqB_new upd_same hob, _, _, rfl, ?_, _, _, rfl, ?_, rfl⟩
  · by_cases ha : a = t
    · subst ha; exact .inr ht
    · exact .inl (by rw [show (g.add t _).F = upd g.F t _ from rfl, upd_ne ha] at e; exact e)
  · cases h : H a with
    | none => exact absurd h e
    | some u => rw [hk2 a u h]; simp
  · by_cases ha : a = t
    · subst ha
      rw [show (g.add a _).F = upd g.F a _ from rfl, upd_same] at e
      cases e; exact h'
    · rw [show (g.add t _).F = upd g.F t _ from rfl, upd_ne ha] at e
      exact hk2 _ _ (w.sub _ _ e)
  · show H' g.da ≠ none
    cases h : H g.da with
    | none => exact absurd h w.dan
    | some u => rw [hk2 _ u h]; simp
  · show H' g.ba ≠ none
    cases h : H g.ba with
    | none => exact absurd h w.ban
    | some u => rw [hk2 _ u h]; simp
  · obtain ⟨h1, h2⟩ := w.dice c m e
    refine ⟨hk2 _ _ h1, ?_⟩
    show upd g.F t _ g.da = none
    rw [upd_ne (ne_of_none h1 ht)]; exact h2
  · show upd g.F t _ p.1 = none
    obtain ⟨ps, e, _⟩ := w.tabs p hp
    rw [upd_ne (ne_of_none e ht)]
    exact w.ntab p hp
  · show V.str _ = V.str _
    rw [hs]
  · show V.str _ = V.str _
    rw [he]
end
end G
end
section
set_option Elab.async false
set_option linter.all false
set_option maxRecDepth 100000
set_option maxHeartbeats 2000000
/-! _law_told(lambda: ..) -/
namespace G
open PySem PySem.Spec PyProof.Rows L2 L2H HotX
theorem shTold_self {Γ : Ga} {l : List Stmt} (h : shTold Γ l = true) : (∃ p1 p2 p3 p4 p5 p6 p7 p8 p9 p10, l = [.Try [.Return (some (.Call (.Name "_law_deed" p1) [] [] p2)) p3] [.ExceptHandler (some (.Name "DiffError" p4)) (some "_law_e") [.Return (some (.Call (.Name "_law_term" p5) [.Name "_law_e" p6] [] p7)) p8] p9] [] [] p10]) ∧
    nameV Γ 0 "_law_deed" = true ∧ nameG Γ "DiffError" = true ∧ nameV Γ 1 "_law_e" = true ∧ Γ.sc.names.lookup ("_law_e" : Str) = some NameKind.local ∧ nameG Γ "_law_term" = true := by
  unfold shTold at h
  split at h
  rotate_left
  · cases h
  simp only [Bool.and_eq_true, decide_eq_true_eq] at h
  obtain ⟨⟨⟨⟨⟨⟨⟨⟨⟨rfl, rfl⟩, rfl⟩, rfl⟩, rfl⟩, v0⟩, g1⟩, v1⟩, hl⟩, g2⟩ := h
  exact ⟨⟨_, _, _, _, _, _, _, _, _, _, rfl⟩, v0, g1, v1, hl, g2⟩
section
variable {U : Wd} {L : Nat} {E : XK} {X : Cx} {Φ : Nat → Option Fn}
theorem s_told {c : C} (T : ToldOk U) (F : Fit U L E X) (mk : Mkr U L X) {params : Arguments} {body : Expr} {scope : Scope} {lpos p pos : Pos} (S : LamX.LamS X.env.scope scope) (hg : Gl X "_law_told") (hdef : defaultsOf params X.env = ([], []))
    (hbind : ∀ (q : Str) (cl : List (Str × Addr)) (pm cv ctv : Value), bindArgs (PySem.W.kla_fn "<lambda>" q params body scope cl pm cv ctv) ⟨[], []⟩ = pure [])
    (hbody : ∀ (A : Around) (outer : List PySem.Env) (s : Shared) (H : Hp) (E : XK) (f c' : Addr), Room L (A.deeper (LamX.lamEnv X scope s.heap.objs.size f c')) → PE (lamX X A outer s H E scope f c') body (tC U.M Φ c E)) :
    PE X (.Call (.Name "_law_told" p) [.Lambda params body scope lpos] [] pos) (tC U.M Φ (.told c) E) := by
  obtain ⟨d, D, hc⟩ := T.told
  obtain ⟨gf, fd, F1, hm, hb, _⟩ := D.ex
  obtain ⟨CS, hCS, hex⟩ := T.de
  unfold chkTold at hc
  simp only [Bool.and_eq_true, decide_eq_true_eq] at hc
  obtain ⟨⟨⟨⟨hx, hs⟩, hN⟩, hpr⟩, hsh⟩ := hc
  have hps : d.ps = (["_law_deed"] : List Str) := by unfold Df.ps; rw [hN, hpr]; rfl
  have SS := scope_ok hs
  have kp := F1.kp
  obtain ⟨oc, od, dV, kV, doc, pm, an, cdv, ct, osl, efd, lk, hcd, _, _⟩ := F1.ex
  rw [efd] at lk
  obtain ⟨⟨ca, P, hcode, TB, hmT, hu⟩, hr⟩ := mk
  refine ⟨fun pins s σ H Q I ⟨g, H0, δ, st, w, so, h⟩ => ?_⟩
  refine wpAny_Call_Name_kw (ld_glob I hg (by rw [F.mg, ← hx]; exact hm) ?_ (by decide))
  refine PySem.W.callWith_K (h₀ := X.base) I.ok.mod.kin (by rw [F.K]; exact kp) ?_ (by rfl) (by rfl)
  show wpAny _ _ (spliced ((false, eval (.Lambda params body scope lpos) X.env) :: backTo pos (starEach [] X.env))) _ _ s
  refine Calls.spliced_cons (lam_mk I TB hcode hmT hu w.tabs hdef (S.has I.ok) fun f c' pm' ctv H1 s' I1 gr T1 hf hfn hfr hco => ?_)
  refine Calls.spliced_nil ⟨I1.kIn, ?_⟩
  have w1 := gr.wok w T1
  have l1 := gr.le w
  have so1 := gr.sok w so
  have rc : codeAny (model X.prog X.w) X.A (.call (.ref gf) ⟨[.ref f], []⟩) (CR C8.CX0 X.stack X.prog X.w H1 s' Q C8.E0) s' := by
    refine LamX.run_ofS (N := d.N) (ps := ["_law_deed"]) (us := [.ref f]) (vs := [.ref f]) (by rw [F.K]; exact lk) (by rw [F.K]; exact hcd) (by rw [← hps]; exact SS) hr I1.env0 (by
      have := hb s' [.ref f] (by have := I1.kIn; rw [F.K] at this; exact this) (by rw [hps]; rfl)
      rw [List.append_nil, hps, efd] at this
      exact this) (.cons rfl .nil) rfl fun hr' => ?_
    obtain ⟨⟨p1, p2, p3, p4, p5, p6, p7, p8, p9, p10, e0⟩, v0, g1, v1, hl, g2⟩ := shTold_self hsh
    generalize hXg : (cxOf C8.CX0 X.prog X.w X.K X.mg X.base d.N d.x (defScope d.st) gf cdv X.A X.stack s' H1 C8.E0).nox = Xg
    have at_ : At U L d.ga Xg := by subst hXg; exact ⟨rfl, rfl, fun _ => rfl, fun z => by cases z⟩
    obtain ⟨a0, a1, a2, a3⟩ := at_.v v0
    obtain ⟨b0, b1, b2, b3⟩ := at_.v v1
    obtain ⟨c1, c2, c3⟩ := at_.g g1
    obtain ⟨d1, d2, d3⟩ := at_.g g2
    have hmg : Xg.mg = U.mg := by subst hXg; exact F.mg
    rw [e0]
    have ht : PS Xg (.Try [.Return (some (.Call (.Name "_law_deed" p1) [] [] p2)) p3] [.ExceptHandler (some (.Name "DiffError" p4)) (some "_law_e") [.Return (some (.Call (.Name "_law_term" p5) [.Name "_law_e" p6] [] p7)) p8] p9] [] [] p10) _ := L2N.ps_try_as (X := Xg) (i := 1) (n := "_law_e") (x := "DiffError") (c := .ref CS) (Wout := fun _ _ _ _ => False) (by subst hXg; rfl) (by subst hXg; rfl) (by subst hXg; exact SS.nd) b0 (by subst hXg; exact hl) ⟨c1, c2, .inl (by rw [hmg]; exact hCS)⟩ takesN0
      (tb := fun W Dd σZ HZ => ∃ Ech : XK, (∀ cls dd σ' H', σ'.length = d.N.length → Ech cls dd H' → W cls dd σ' H') ∧ σZ[0]? = some (some (.ref f)) ∧ HZ c' = some (LamX.CodeO c' (lamQ X)) ∧ tC U.M Φ c Ech σ HZ Dd.rt)
      (ts := fun a cls dd Dd σZ HZ => ∃ k, k < 12 ∧ cls = .ref (U.M.ec k) ∧ dd = none ∧ σZ[1]? = some (some (.ref a)) ∧ ErrAt k HZ Dd.rt)
      (fun W pn xe tk _ => ⟨fun pinsZ sZ σZ HZ Dd IZ ⟨Ech, hW, h1, h2, h3⟩ => by
        subst hXg
        have tk2 := takes_len tk
        exact (pss_one (ps_ret (lam_act (CXg := C8.CX0) (Eg := C8.E0) (params := params) (E := Ech) I1 S hf hfn hfr (hbind _ _ _ _ _) tk2 (fun cls dd σ' H' e hl => hW cls dd σ' H' hl e) hr' (fun A outer s H hr2 => hbody A outer s H Ech f c' hr2) a0 a1 a2 a3))).run pinsZ sZ σZ HZ Dd IZ ⟨h1, h2, h3⟩⟩)
      (fun a oe cls dd pn hz hf2 => ⟨fun pinsZ sZ σZ HZ Dd IZ ⟨k, hk, e1, e2, h1, h2⟩ => by
        subst e1 e2
        subst hXg
        obtain ⟨vs, hvs⟩ := hf2
        have e1 := hr'.dp
        have e2 := hr'.un
        exact (pss_one (ps_ret (term_call (X := (cxOf C8.CX0 X.prog X.w X.K X.mg X.base d.N d.x (defScope d.st) gf cdv X.A X.stack s' H1 C8.E0).nox.suite a ((a, oe) :: pn)) (p := (a, oe)) T F.prog F.w F.K F.mg F.base ⟨rfl, vs, hvs, hz.2.2 vs hvs⟩ List.mem_cons_self hk hz.zc ⟨Nat.lt_of_le_of_lt (Nat.add_le_add_right (Nat.add_le_add_left (by omega) _) _) e1, Nat.lt_of_le_of_lt (Nat.add_le_add_right (Nat.add_le_add_left (by omega) _) _) e2⟩ d1 b0 b1))).run pinsZ sZ σZ HZ Dd IZ ⟨h1, h2⟩⟩)
    refine ⟨_, (by rw [← hXg] at ht; exact (pss_one ht).nox), ?_⟩
    refine ⟨fun cls dd H' => ∃ k, k < 12 ∧ cls = .ref (U.M.ec k) ∧ dd = none ∧ ErrAt k H' Q, fun cls dd σ' H' hl ⟨k, hk, z1, z2, z3⟩ => ?_, ?_, hco, ?_⟩
    · subst z1 z2
      refine ⟨true, by show PySem.W.exmOne X.K _ _ = _; rw [F.K]; exact hex k hk, fun _ a na => ⟨k, hk, rfl, rfl, ?_, z3⟩, fun z => by cases z⟩
      rw [List.getElem?_set_self (by rw [hl, hN]; decide)]
    · rw [hN]; rfl
    · refine ⟨g, H0, δ, st, w1, so1, ?_⟩
      unfold evC at h
      cases ev : evC U.M.gl Φ c δ st with
      | ok a s1 =>
        rw [ev] at h
        exact fun v g' H' l => h v g' H' (l1.trans l)
      | exc k s1 =>
        rw [ev] at h
        intro g' H' l wz
        unfold toldR at h
        cases en : exNm[k]? with
        | none => simp only [en] at h; exact False.elim h
        | some n =>
          simp only [en] at h
          refine ⟨k, (List.getElem?_eq_some_iff.mp en).1, rfl, rfl, err_ok wz en (E := E) fun v g2 H2 l2 => h v g2 H2 ((l1.trans l).trans l2)⟩
      | bad => rw [ev] at h; exact False.elim h
  refine wpAny_call (codeAny_mono rc fun r s2 hq => ?_)
  cases r with
  | error e => exact (show False from hq).elim
  | ok fl =>
    cases fl with
    | ret u => exact I1.after hq
    | next => exact False.elim hq
    | brk => exact False.elim hq
    | cont => exact False.elim hq
end
end G
end
section
set_option Elab.async false
set_option linter.all false
set_option maxRecDepth 100000
set_option maxHeartbeats 1000000
/-! x[::-1] of a tuple, .index, dict comprehensions -/
namespace G
open PySem PySem.Spec PyProof.Rows L2
/-! ### a tuple backwards -/
section
variable {prog : Program} {w : World} {A : Around} {s : Shared} {E : Value → Shared → Prop}
theorem adjust_rev (n : Nat) : Builtin.Slice.sliceAdjust none none (-1) (n : Int) = ((n : Int) - 1, -1) := by
  unfold Builtin.Slice.sliceAdjust
  rfl
theorem places_rev (n : Nat) : Builtin.Slice.slicePlaces ((n : Int) - 1) (-1) (-1) = n := by
  unfold Builtin.Slice.slicePlaces
  have h1 : ¬ ((-1 : Int) > 0) := by decide
  simp only [h1, if_false]
  by_cases h : (n : Int) - 1 > -1
  · rw [if_pos h]
    have : (-(-1) : Int) = 1 := rfl
    rw [this, Int.ediv_one]
    omega
  · rw [if_neg h]
    omega
theorem pick_rev (xs : Array Value) : ((List.range xs.size).filterMap fun (m : Nat) => xs[(((xs.size : Int) - 1) + (m : Int) * (-1)).toNat]?).toArray = xs.toList.reverse.toArray := by
  have e : ((List.range xs.size).filterMap fun (m : Nat) => xs[(((xs.size : Int) - 1) + (m : Int) * (-1)).toNat]?) = (List.range xs.size).filterMap fun m => xs[xs.size - 1 - m]? := by
    have go : ∀ (l : List Nat), (∀ m ∈ l, m < xs.size) → (l.filterMap fun (m : Nat) => xs[(((xs.size : Int) - 1) + (m : Int) * (-1)).toNat]?) = l.filterMap fun m => xs[xs.size - 1 - m]? := by
      intro l
      induction l with
      | nil => intro _; rfl
      | cons m l ih =>
        intro h
        have h1 := h m List.mem_cons_self
        have e3 : (((xs.size : Int) - 1) + (m : Int) * (-1)).toNat = xs.size - 1 - m := by omega
        rw [List.filterMap_cons, List.filterMap_cons, ih fun k hk => h k (List.mem_cons_of_mem _ hk), e3]
    exact go _ fun m hm => List.mem_range.mp hm
  rw [e]
  have e2 : ((List.range xs.size).filterMap fun m => xs[xs.size - 1 - m]?) = ((List.range xs.size).map fun k => xs.size - 1 - k).filterMap (xs[·]?) := by
    rw [List.filterMap_map]; rfl
  rw [e2, PySem.W.krv_range, List.filterMap_reverse, PySem.W.krv_all]
theorem applied_rev {sl : Addr} {vl vu vs : Value} {n : Nat} {Q : Int × Int × Nat → Shared → Prop} (hs : s.heap.IsSliceOf sl vl vu vs) (pl : IsPart vl none) (pu : IsPart vu none) (ps : IsPart vs (some (-1)))
    (h : Q ((n : Int) - 1, -1, n) s) : wpAny (model prog w) A (Builtin.Slice.sliceApplied (.ref sl) (pure (n : Int))) Q E s := by
  obtain ⟨os, hos, hcs, hds⟩ := id hs
  unfold Builtin.Slice.sliceApplied Builtin.Slice.sliceFields
  refine wpAny_bind (wpAny_bind (wpAny_field hos hds (x := vl) rfl (wpAny_bind (wpAny_field hos hds (x := vu) rfl (wpAny_bind (wpAny_field hos hds (x := vs) rfl (wpAny_pure ?_)))))))
  refine wpAny_bind (HT.slicePart_ ps ?_)
  show wpAny _ _ (if ((-1 : Int) == 0) = true then _ else _) _ _ s
  rw [if_neg (by decide)]
  refine wpAny_bind (HT.slicePart_ pl (wpAny_bind (HT.slicePart_ pu (wpAny_bind (wpAny_pure ?_)))))
  show wpAny _ _ (match Builtin.Slice.sliceAdjust none none (-1) (n : Int) with | (lo, hi) => pure (lo, (-1 : Int), Builtin.Slice.slicePlaces lo hi (-1))) _ _ s
  rw [adjust_rev]
  show wpAny _ _ (pure ((n : Int) - 1, (-1 : Int), Builtin.Slice.slicePlaces ((n : Int) - 1) (-1) (-1))) _ _ s
  rw [places_rev]
  exact wpAny_pure h
theorem item_rev {t sl : Addr} {items : Array Value} {vl vu vs : Value} {Q : Value → Shared → Prop} (ht : IsTup s.heap t items) (hs : s.heap.IsSliceOf sl vl vu vs) (pl : IsPart vl none) (pu : IsPart vu none) (ps : IsPart vs (some (-1)))
    (h : Q (.ref s.heap.objs.size) { s with heap := s.heap.push { cls := .type "tuple", data := .seq items.toList.reverse.toArray } })
    (hsz : items.size ≤ sizeLine) : wpAny (model prog w) A (getItem (.ref t) (.ref sl)) Q E s := by
  have htake : sizeOk (.seq items.toList.reverse.toArray) := by
    show items.toList.reverse.toArray.size ≤ sizeLine
    rw [List.size_toArray, List.length_reverse, Array.length_toList]
    exact hsz
  obtain ⟨os, hos, hcs, hds⟩ := id hs
  have hTs : s.TypeIs (.ref sl) "slice" := ⟨os, hos, hcs⟩
  unfold getItem
  try with_reducible refine wpAny_holding ?_
  first | refine wpAny_bind (wpAny_pure ?_) | skip
  refine wpAny_bind (wpAny_sequenceKey ht.typeIs (by decide) ?_)
  refine wpAny_bind (wpAny_callSpecial?_slot (name := Str.ofString "__getitem__") ht.typeIs PyProof.Rows.slot_tuple_getitem
    (wpAny_call_entry PyProof.Rows.slot_tuple_getitem ht.typeIs entry_tuple_getitem ?_ (args_tuple_getitem _ _)))
  show wpAny _ _ (Builtin.Tuple.tupleItemsOf (.ref t) >>= _) _ _ s
  refine wpAny_bind (tupleItemsOf_ ht ?_)
  refine wpAny_bind (wpAny_typeOf hTs ?_)
  rw [if_pos (by decide)]
  refine wpAny_bind (applied_rev hs pl pu ps ?_)
  have hno : ¬ ((((items.size : Nat) : Int) - 1 == 0 && (-1 : Int) == 1 && items.size == items.size) = true) := by
    intro q
    rw [Bool.and_eq_true, Bool.and_eq_true] at q
    exact absurd q.1.2 (by decide)
  show wpAny _ _ (if (((items.size : Nat) : Int) - 1 == 0 && (-1 : Int) == 1 && items.size == items.size) = true then _ else _) _ _ s
  rw [if_neg hno, pick_rev]
  first
    | exact wpAny_bind (m := Builtin.Tuple.tupleExact _) (wpAny_newObj_type (wpAny_pure ⟨_, rfl, wpAny_pure h⟩) htake)
    | exact wpAny_bind (m := Builtin.Tuple.tupleExact _) (wpAny_newObj_type (wpAny_bind (wpAny_pure (wpAny_pure ⟨_, rfl, wpAny_pure h⟩))) htake)
    | exact wpAny_bind (wpAny_bind (m := Builtin.Tuple.tupleExact _) (wpAny_newObj_type (wpAny_pure (wpAny_pure ⟨_, rfl, wpAny_pure h⟩)) htake))
    | exact wpAny_bind (wpAny_bind (m := Builtin.Tuple.tupleExact _) (wpAny_newObj_type (wpAny_pure ⟨_, rfl, wpAny_pure h⟩) htake))
end
section
variable {X : Cx}
def tRevT (K : PySem.W.Frag) (te : TE) : TE := fun σ H Q => te σ H fun x H1 => ∃ a xs, x = .ref a ∧ ((SqT K H1 a xs ∧ ∀ p o, H1 p = none → o.dict = none → Q (.ref p) (upd H1 p (.frz o (.tup xs.reverse)))) ∨ (SqL K H1 a xs ∧ ∀ p, H1 p = none → Q (.ref p) (upd H1 p (.lst xs.reverse))))
theorem pe_revT {e : Expr} {te : TE} {k : Nat} {p1 p2 p3 pos : Pos} (he : PE X e te) : PE X (.Subscript e (.Slice none none (some (.UnaryOp .USub (.Constant (.int 1) k p1) p2)) p3) pos) (tRevT X.K te) := by
  refine ⟨fun pins s σ H Q I h => ?_⟩
  refine Subscript_ (thn (he.run pins s σ H _ I h) fun v s1 ⟨x, H1, I1, r1, q1⟩ => ?_)
  obtain ⟨a, xs, ex, hq⟩ := q1
  subst ex
  cases r1
  have hst : PO X (some (.UnaryOp .USub (.Constant (.int 1) k p1) p2)) (tPart (tUn (rU fun i => .int (-i)) (L2.tC (.int 1)))) := po_some (pe_un un_neg pe_int)
  refine wpAny_Slice (thn (po_none.run pins s1 σ H1 (fun o H2 => o = none ∧ H2 = H1) I1 ⟨rfl, rfl⟩) fun vl s2 ⟨l, H2, I2, pl, el, e2⟩ => ?_)
  subst el e2
  refine thn (po_none.run pins s2 σ H2 (fun o H3 => o = none ∧ H3 = H2) I2 ⟨rfl, rfl⟩) fun vu s3 ⟨u, H3, I3, pu, eu, e3⟩ => ?_
  subst eu e3
  refine thn (hst.run pins s3 σ H3 (fun o H4 => o = some (-1) ∧ H4 = H3) I3 ⟨1, rfl, -1, rfl, rfl, rfl⟩) fun vs s4 ⟨o, H4, I4, ps, eo, e4⟩ => ?_
  subst eo e4
  have I5 : Inv X pins σ H4 { s4 with heap := s4.heap.push { cls := .type "slice", data := .fields #[vl, vu, vs] } } := I4.kept (t' := s4.toks) fun b ob q => Heap.get?_push_of_some _ q
  rcases hq with ⟨hx, q⟩ | ⟨hx, q⟩
  · obtain ⟨its, r, ht, hz⟩ := I5.tuple hx
    have hlen := r.length
    show wpAny (model X.prog X.w) X.A (subscriptTail e (.Slice none none (some (.UnaryOp .USub (.Constant (.int 1) k p1) p2)) p3) (.ref a) (.ref s4.heap.objs.size)) (EP X pins σ Q) X.xe { s4 with heap := s4.heap.push { cls := .type "slice", data := .fields #[vl, vu, vs] } }
    refine tail_any (ops := [.ref a, .ref s4.heap.objs.size]) ht.typeIs PyProof.Rows.slot_tuple_getitem.lookup ?_ (by with_unfolding_all rfl)
    refine item_rev ht (Heap.IsSliceOf.new _ vl vu vs) pl pu ps ?_ (by rw [List.size_toArray]; omega)
    exact ⟨.ref _, _, I5.laid (t' := s4.toks) (fun b ob q => Heap.get?_push_of_some _ q) (Nat.le_refl _) (okT (xs := xs.reverse) (by rw [List.length_reverse]; exact hz) r.reverse (Heap.get?_push_size _ rfl)), rfl, q _ _ (I5.hok.fresh (Nat.le_refl _)) rfl⟩
  · obtain ⟨its, r, ht, hz⟩ := I5.list hx
    have hlen := r.length
    show wpAny (model X.prog X.w) X.A (subscriptTail e (.Slice none none (some (.UnaryOp .USub (.Constant (.int 1) k p1) p2)) p3) (.ref a) (.ref s4.heap.objs.size)) (EP X pins σ Q) X.xe { s4 with heap := s4.heap.push { cls := .type "slice", data := .fields #[vl, vu, vs] } }
    refine tail_any (ops := [.ref a, .ref s4.heap.objs.size]) ht.isList.typeIs (PySem.slot_list_getitem.lookup) ?_ (by with_unfolding_all rfl)
    refine wpAny_getItem_list_slice ht.isList (Heap.IsSliceOf.new _ vl vu vs) pl pu ps (by decide) ?_ (by rw [List.size_toArray]; omega)
    rw [PySem.W.krv_pick]
    refine ⟨.ref _, _, I5.laid (t' := s4.toks) (o := .lst xs.reverse) (fun b ob q => Heap.get?_push_of_some _ q) (Nat.le_refl _) ?_, rfl, q _ (I5.hok.fresh (Nat.le_refl _))⟩
    exact ⟨by rw [List.length_reverse]; exact hz, _, 0, r.reverse, Heap.get?_push_size _ rfl⟩
end
section
variable {X : Cx} {M : Mw} {Φ : Nat → Option Fn} {E : XK}
theorem s_rev {e : Expr} {c : C} {k : Nat} {p1 p2 p3 pos : Pos} (hK : X.K = M.K) (ha : PE X e (tC M Φ c E)) : PE X (.Subscript e (.Slice none none (some (.UnaryOp .USub (.Constant (.int 1) k p1) p2)) p3) pos) (tC M Φ (.rev c) E) := by
  refine (pe_revT ha).imp fun σ H Q ⟨g, H0, δ, s, w, so, h⟩ => ?_
  unfold evC at h
  refine tC.bind w so h fun v H1 g1 x s1 l1 w1 so1 r1 h1 => ?_
  cases x with
  | d x =>
    cases x with
    | tup ds =>
      obtain ⟨a, vs, rfl, q1, q2⟩ := r1
      exact ⟨a, vs, rfl, .inl ⟨by rw [hK]; exact q1.mono' w1, fun p o hp ho => Post.tup w1 h1 q2.rev hp ho⟩⟩
    | lst ds =>
      obtain ⟨a, vs, rfl, q1, q2⟩ := r1
      exact ⟨a, vs, rfl, .inr ⟨by rw [hK]; exact SqL.of (w1.sub _ _ q1), fun p hp => Post.lst w1 h1 q2.rev hp⟩⟩
    | _ => exact False.elim h1
  | _ => exact False.elim h1
/-! ### {k: v for .. in ..} -/
def dcT (gl : Nat → D) (Φ : Nat → Option Fn) (is : List Nat) (key val : C) (δ : Env) (d : D) (s : Sto) : Res (D × D) := match setTg true is d δ with
  | some δ' => (evC gl Φ key δ' s).bind fun k s => (evC gl Φ val δ' s).bind fun v s => (match k, v with | .d k, .d v => .ok (k, v) s | _, _ => .bad)
  | none => .bad
theorem evC_dc {gl : Nat → D} {is : List Nat} {it : It} {key val : C} {δ : Env} {s : Sto} : evC gl Φ (.dc is it key val) δ s = (evIt gl Φ it δ s).bind fun ds s => (noExc (dcGo (dcT gl Φ is key val δ) ds [] s)).bind fun kvs s => .ok (.dci kvs) s := by
  rw [evC]; rfl
theorem dc_it {J : L2.It} {n : Nat} {G : Hp → Prop} {Y : Nat → Hp → V → Hp → Prop} (w : Walk J n G Y) {g : TG} {tt : TT} {tk tv : TE} {vs : List Nat} {σ : L2.St} {H1 : Hp} {D : Addr} {Qd : Hp → Prop} (Pv : Nat → Hp → Prop) (h0 : Pv 0 (upd H1 D (.dK []))) (hG : ∀ i H, i ≤ n → Pv i H → G H)
    (hs : ∀ i x H H', i < n → Pv i H → Y i H x H' → g x (wipe σ vs) H' fun σ2 H2 => wipe σ2 vs = wipe σ vs ∧ tt σ2 H2 fun b H3 =>
      if b = true then tk σ2 H3 fun y H4 => tv σ2 H4 fun z H5 => ∃ kvs k, y = kV k ∧ H5 D = some (.dK kvs) ∧ kvs.length < sizeLine ∧ Pv (i + 1) (upd H5 D (.dK (putK kvs k z))) else Pv (i + 1) H3) (hd : ∀ H, Pv n H → Qd H) :
    ∃ W : Nat → Nat → Hp → Prop, (∃ m, W 0 m (upd H1 D (.dK []))) ∧ ∀ i m H, W i m H →
      (J.stop i H ∧ Qd H) ∨ (J.go i H ∧ ∃ Nx : Hp → Prop, (∀ H', Nx H' → ∃ m', m' < m ∧ W (i + 1) m' H') ∧ ∀ x H', J.yld i H x H' → g x (wipe σ vs) H' fun σ2 H2 => wipe σ2 vs = wipe σ vs ∧ tt σ2 H2 fun b H3 =>
        if b = true then tk σ2 H3 fun y H4 => tv σ2 H4 fun z H5 => ∃ kvs k, y = kV k ∧ H5 D = some (.dK kvs) ∧ kvs.length < sizeLine ∧ Nx (upd H5 D (.dK (putK kvs k z))) else Nx H3) := by
  refine ⟨fun i m H => m = n - i ∧ i ≤ n ∧ Pv i H, ⟨n, by simp, Nat.zero_le _, h0⟩, ?_⟩
  rintro i m H ⟨rfl, hi, p⟩
  have q := hG i H hi p
  by_cases hlt : i < n
  · refine .inr ⟨w.goes i H hlt q, Pv (i + 1), fun H' p' => ⟨n - (i + 1), by omega, rfl, hlt, p'⟩, fun x H' y => hs i x H H' hlt p (w.yields i H x H' hlt q y)⟩
  · have e : i = n := by omega
    subst e
    exact .inl ⟨w.stops H q, hd H p⟩
theorem not_tbl_dK {kvs : List (Key × V)} : ∀ ps, HO.dK kvs ≠ .tbl ps := fun _ h => by cases h
theorem WOk.writeK {g : Gh} {H : Hp} {s : Sto} {p : Addr} {kvs : List (Key × V)} {o : HO} (w : WOk M g H s) (h : H p = some (.dK kvs)) (hF : g.F p = none) (hd : p ≠ g.da) : WOk M g (upd H p o) s where
  sub := fun a u e => by
    have : a ≠ p := fun z => by subst z; rw [hF] at e; cases e
    rw [upd_ne this]; exact w.sub _ _ e
  dan := by rw [upd_ne (Ne.symm hd)]; exact w.dan
  ban := by
    by_cases hb : g.ba = p
    · rw [hb, upd_same]; simp
    · rw [upd_ne hb]; exact w.ban
  dice := fun c m e => by
    obtain ⟨h1, h2⟩ := w.dice c m e
    exact ⟨by rw [upd_ne (Ne.symm hd)]; exact h1, h2⟩
  book := w.book
  tabs := by
    intro q hq
    obtain ⟨ps, h1, h2⟩ := w.tabs q hq
    refine ⟨ps, by rw [upd_ne (ne_of h1 h (by simp))]; exact h1, h2.1, fun pos cv hc => ?_⟩
    obtain ⟨c, e1, e2⟩ := h2.2 pos cv hc
    exact ⟨c, e1, by rw [upd_ne (ne_of e2 h (by unfold LamX.CodeO; simp))]; exact e2⟩
  ntab := w.ntab
theorem dc_imp {own : List (Str × Nat)} {it : It} {key val : C} {σ : L2.St} {H : Hp} {Q : VK} (q : tC M Φ (.dc (own.map (·.2)) it key val) E σ H Q) :
    tDc (tIL M Φ it E) (gOf M.K true (own.map (·.2))) tYes (tC M Φ key noE) (tC M Φ val noE) (own.map (·.2)) σ H Q := by
  obtain ⟨g, H0, δ, s, w, so, h⟩ := q
  rw [evC_dc] at h
  refine ⟨g, H0, δ, s, w, so, h.bind.mono fun J H1 ⟨g1, ds, s1, l1, w1, wd, h1⟩ D hD => ?_⟩
  have so1 := so.later l1
  have nda : D ≠ g1.da := ne_da w1 hD
  have nba : D ≠ g1.ba := ne_ba w1 hD
  have W : Walk J ds.length (fun H' => ∃ g' s', Le g1 H1 g' H' ∧ WOk M g' H' s') (fun i H' x H'' => J.yld i H' x H'') :=
    ⟨fun i H' hi ⟨g', s', sb, w'⟩ => wd.go i g' H' s' sb w' hi, fun H' ⟨g', s', sb, w'⟩ => wd.stop g' H' s' sb w', fun i H' x H'' _ _ y => y⟩
  refine dc_it W (fun i H' => ∃ g' s' kv acc, Le g1 H1 g' H' ∧ WOk M g' H' s' ∧ H' D = some (.dK kv) ∧ g'.F D = none ∧ RepK M.K g'.F acc kv ∧
      Post M E ((noExc (dcGo (dcT M.gl Φ (own.map (·.2)) key val δ) (ds.drop i) acc s')).bind fun kvs s => .ok (.dci kvs) s) g1 H1 Q) ?_ ?_ ?_ ?_
  · exact ⟨g1, s1, [], [], Le.fresh hD, w1.fresh hD, upd_same, w1.free hD, rfl, h1⟩
  · rintro i H' _ ⟨g', s', kv, acc, l, w', _⟩
    exact ⟨g', s', l, w'⟩
  · rintro i x H' H'' hi ⟨g', s', kv, acc, l, w', hDl, hF, ra, hp⟩ y
    obtain ⟨g2, d, l2, w2, e2, r2⟩ := wd.yld i g' H' s' x H'' l w' hi y
    have so2 := (so1.later l).later l2
    have hdrop : ds.drop i = d :: ds.drop (i + 1) := by
      obtain ⟨hi', e3⟩ := List.getElem?_eq_some_iff.mp e2
      rw [List.drop_eq_getElem_cons hi', e3]
    rw [hdrop] at hp
    unfold dcGo at hp
    unfold dcT at hp
    cases e3 : setTg true (own.map (·.2)) d δ with
    | none => rw [e3] at hp; exact False.elim hp
    | some δ' =>
      rw [e3] at hp
      simp only at hp
      have so3 : SOk M g2 H0 H'' (wipe σ (own.map (·.2))) (wipeE (own.map (·.2)) δ) := so2.wipe _
      refine gOf_ok w2 so3 (by rw [setTg_wipe]; exact e3) r2 fun σ2 so4 hl hj => ⟨?_, ?_⟩
      · rw [wipe_eq (σ := wipe σ (own.map (·.2))) hl hj]
        exact wipe_eq (wipe_length _ _) fun j hj => wipe_out hj
      · unfold tYes
        dsimp only
        rw [if_pos rfl]
        refine ⟨g2, H0, δ', s', w2, so4, ?_⟩
        cases ek : evC M.gl Φ key δ' s' with
        | exc c s => rw [ek] at hp; exact False.elim hp
        | bad => rw [ek] at hp; exact False.elim hp
        | ok k s3 =>
          rw [ek] at hp
          intro y1 g3 H3 l3 w3 r3
          simp only [Res.bind] at hp
          refine ⟨g3, H0, δ', s3, w3, so4.later l3, ?_⟩
          cases ev : evC M.gl Φ val δ' s3 with
          | exc c s => rw [ev] at hp; exact False.elim hp
          | bad => rw [ev] at hp; exact False.elim hp
          | ok z s4 =>
            rw [ev] at hp
            intro y2 g4 H4 l4 w4 r4
            cases k with
            | d k =>
              cases z with
              | d z =>
                simp only at hp
                cases k with
                | int k =>
                  by_cases hlen : acc.length < lim
                  · simp only [if_pos hlen] at hp
                    have l24 := (l2.trans l3).trans l4
                    have hD4 := l24.keep _ _ hDl (by rw [l.da]; exact nda) (by rw [l.ba]; exact nba) not_tbl_dK
                    have hF4 := l24.noF hF (by rw [hDl]; simp)
                    have ra4 := ra.mono l24.fr
                    have e1 : y1 = V.int k := r3
                    refine ⟨kv, .inl k, e1, hD4, by rw [ra.length, ← lim_eq]; exact hlen, g4, s4, putK kv (.inl k) y2, putKI acc k z, (l.trans l24).write hD, w4.writeK hD4 hF4 (by rw [l24.da, l.da]; exact nda), upd_same, hF4, ra4.put r4, hp⟩
                  · simp only [if_neg hlen] at hp
                    exact False.elim hp
                | _ => exact False.elim hp
              | _ => exact False.elim hp
            | _ => cases z <;> exact False.elim hp
  · rintro H' ⟨g', s', kv, acc, l, w', hDl, hF, ra, hp⟩
    rw [List.drop_length] at hp
    have nd : D ≠ g'.da := by rw [l.da]; exact nda
    refine hp (.ref D) (g'.add D (.dK kv)) H' ⟨l.fr.trans (Sub.upd hF), fun a o e => ?_, l.keep, l.there, l.da, l.ba⟩ (w'.freeze hDl nd) ⟨D, kv, rfl, upd_same, ra.mono (Sub.upd hF)⟩
    by_cases ha : a = D
    · subst ha; exact .inr hD
    · rw [show (g'.add D (.dK kv)).F = upd g'.F D (.dK kv) from rfl, upd_ne ha] at e
      exact l.new a o e
theorem s_dc {tg iter kx vx : Expr} {scope : Scope} {own : List (Str × Nat)} {is : List Nat} {it : It} {key val : C} {pos : Pos} (hK : X.K = M.K) (hc : X.calm = true) (hN : X.N.Nodup) (his : own.map (·.2) = is)
    (hi : PI X tg iter (tIL M Φ it E)) (ok : BlkOk X.N X.env.scope scope own)
    (hg : ∀ (s : Shared) (H : Hp) (C : Addr) (cl : List (Str × Addr)) (fp : List Addr), PG (X.blk s H scope (compEnvC scope cl C X.env) fp) tg (gOf M.K true is))
    (hk : ∀ (s : Shared) (H : Hp) (C : Addr) (cl : List (Str × Addr)) (fp : List Addr), PE (X.blk s H scope (compEnvC scope cl C X.env) fp) kx (tC M Φ key noE))
    (he : ∀ (s : Shared) (H : Hp) (C : Addr) (cl : List (Str × Addr)) (fp : List Addr), PE (X.blk s H scope (compEnvC scope cl C X.env) fp) vx (tC M Φ val noE))
    (hs : ∀ x, foldedSetIterable iter X.env x = pure x) : PE X (.DictComp kx vx [⟨tg, iter, [], 0⟩] scope pos) (tC M Φ (.dc is it key val) E) := by
  subst his
  exact (pe_dc hc hN hi ok hg (fun s H C cl fp => pts_nil) hk he hs).imp fun σ H Q q => dc_imp q
theorem ps_setDc {i : Nat} {y : Str} {py : Pos} {kx vx tg iter : Expr} {scope : Scope} {own : List (Str × Nat)} {pos spos : Pos} {wi : TI} {g : TG} {tk tv : TE} (hc : X.calm = true) (hN : X.N.Nodup) (hy : X.N[i]? = some y) (hyl : X.env.scope.names.lookup y = some .local)
    (hsw : swapsWith (.DictComp kx vx [⟨tg, iter, [], 0⟩] scope pos) (some (.Name y py)) spos.line X.env = pure true) (hi : PI X tg iter wi) (ok : BlkOk X.N X.env.scope scope own)
    (hg : ∀ (s : Shared) (H : Hp) (C : Addr) (cl : List (Str × Addr)) (fp : List Addr), PG (X.blk s H scope (compEnvC scope cl C X.env) fp) tg g)
    (hk : ∀ (s : Shared) (H : Hp) (C : Addr) (cl : List (Str × Addr)) (fp : List Addr), PE (X.blk s H scope (compEnvC scope cl C X.env) fp) kx tk)
    (he : ∀ (s : Shared) (H : Hp) (C : Addr) (cl : List (Str × Addr)) (fp : List Addr), PE (X.blk s H scope (compEnvC scope cl C X.env) fp) vx tv) (hs : ∀ x, foldedSetIterable iter X.env x = pure x) :
    PS X (.Assign [.Name y py] (.DictComp kx vx [⟨tg, iter, [], 0⟩] scope pos) spos) (tAsg (tDc wi g tYes tk tv (own.map (·.2))) (gName i)) := by
  refine ⟨fun pins s σ H D I h => ?_⟩
  rw [exec_Assign_Name_used _ _ _ _ hsw]
  refine wpAny_bind (wpAny_standAt (wpAny_bind ?_))
  show wpAny _ X.A (do let _ ← comprehension (.DictComp kx vx [⟨tg, iter, [], 0⟩] scope pos) scope X.env (firstIterPos [⟨tg, iter, [], 0⟩] pos) newDict false (eval iter X.env) (some (assign (.Name y py) X.env))) _ _ s
  have h : tDc wi g tYes tk tv (own.map (·.2)) σ H (fun x H1 => gName i x σ H1 D.nx) := h
  refine wpAny_bind (thn (dc_core (Qf := fun _ s' => SP X pins D .next s') hc hN I hi ok hg (fun s H C cl fp => pts_nil) hk he hs h fun L C s' m H' I' q hn f => ?_) fun _ s' hq => wpAny_pure (wpAny_pure hq))
  show wpAny _ _ (assign (.Name y py) X.env (.ref L)) _ _ _
  refine wpAny_assign_Name (store_ok2 (v := V.ref L) I' hN hy (.inl hyl) rfl (fun s2 I2 ⟨a, sb, ha⟩ => ?_) (.inr hyl))
  obtain ⟨f0, f1, f2, f3, f4, f5⟩ := f
  have haC : C ≠ a := by
    rcases ha with z | z
    · rw [z]; exact f1
    · exact fun e => f4 y a z e.symm
  refine ⟨m, hn.sameBut sb haC, fun h3 sb3 => ?_⟩
  exact ⟨_, H', I2.turned (t' := s2.toks) (fun b o hb e => (sb3.2 b hb).trans e) f0 f1 f3 f4 f5, q⟩
theorem sw_trueD {kx vx : Expr} {gs : List Comprehension} {scope : Scope} {pos py : Pos} {y : Str} {l : Nat} {env : PySem.Env} (hk : env.scope.kind = .function) (hy : env.scope.names.lookup y = some .local) (hl : (py.line == pos.line) = true)
    (ha : (scope.names.any fun (n, k) => n == y && (k == .local || k == .cell)) = false) : swapsWith (.DictComp kx vx gs scope pos) (some (.Name y py)) l env = pure true := by
  have ky : env.kindOf y = some .local := hy
  have hb : env.blockKind = .function := by unfold PySem.Env.blockKind; rw [hk]; rfl
  unfold swapsWith
  simp only [hb, ky, ha, Expr.pos, hl]
  rfl
theorem swaps_cellD {kx vx : Expr} {gs : List Comprehension} {scope : Scope} {pos : Pos} {x : Str} {px : Pos} {l : Nat} {env : PySem.Env} (h : env.scope.names.lookup x = some .cell) : swapsWith (.DictComp kx vx gs scope pos) (some (.Name x px)) l env = pure false := by
  unfold swapsWith
  simp only [PySem.Env.kindOf, h]
  have : (some NameKind.cell == some NameKind.local) = false := by decide
  rw [this, Bool.and_false, Bool.false_and, Bool.false_and]
theorem ps_dcF {i : Nat} {y : Str} {py : Pos} {tg iter kx vx : Expr} {scope : Scope} {own : List (Str × Nat)} {is : List Nat} {it : It} {key val : C} {pos spos : Pos} (hc : X.calm = true) (hN : X.N.Nodup) (his : own.map (·.2) = is)
    (hy : X.N[i]? = some y) (hyl : X.env.scope.names.lookup y = some .local) (hsw : swapsWith (.DictComp kx vx [⟨tg, iter, [], 0⟩] scope pos) (some (.Name y py)) spos.line X.env = pure true)
    (hi : PI X tg iter (tIL M Φ it E)) (ok : BlkOk X.N X.env.scope scope own)
    (hg : ∀ (s : Shared) (H : Hp) (C : Addr) (cl : List (Str × Addr)) (fp : List Addr), PG (X.blk s H scope (compEnvC scope cl C X.env) fp) tg (gOf M.K true is))
    (hk : ∀ (s : Shared) (H : Hp) (C : Addr) (cl : List (Str × Addr)) (fp : List Addr), PE (X.blk s H scope (compEnvC scope cl C X.env) fp) kx (tC M Φ key noE))
    (he : ∀ (s : Shared) (H : Hp) (C : Addr) (cl : List (Str × Addr)) (fp : List Addr), PE (X.blk s H scope (compEnvC scope cl C X.env) fp) vx (tC M Φ val noE))
    (hs : ∀ x, foldedSetIterable iter X.env x = pure x) : PS X (.Assign [.Name y py] (.DictComp kx vx [⟨tg, iter, [], 0⟩] scope pos) spos) (tAsg (tC M Φ (.dc is it key val) E) (gName i)) := by
  subst his
  exact (ps_setDc hc hN hy hyl hsw hi ok hg hk he hs).imp fun D σ H q => dc_imp q
/-! ### xs.index(x), ints -/
def baseOk : Expr → Bool
  | .Call .. => false
  | _ => true
theorem base_ok {o : Expr} {n : Str} {env : PySem.Env} (h : baseOk o = true) : attributeBase o n env (eval o env) = eval o env := by
  cases o <;> first | rfl | cases h
theorem Reps.flatI {K : PySem.W.Frag} {F : Hp} : ∀ {ds : List D} {vs : List V}, Reps K F ds vs → ds.all G.flat = true → vs.all flatV = true
  | [], _, h, _ => by rw [show _ = [] from h]; rfl
  | d :: ds, _, ⟨v, r, e, q, z⟩, h => by
    subst e
    rw [List.all_cons, Bool.and_eq_true] at h ⊢
    refine ⟨?_, Reps.flatI z h.2⟩
    cases d with
    | int i => rw [show v = V.int i from q]; rfl
    | _ => cases h.1
theorem index_get {d : D} : ∀ {ds : List D} {n : Nat}, indexD d ds = some n → ∃ e, ds[n]? = some e ∧ eqD e d = true ∧ ∀ m e', m < n → ds[m]? = some e' → eqD e' d = false
  | [], _, h => by cases h
  | e :: es, n, h => by
    unfold indexD at h
    split at h
    · rename_i he
      cases h
      exact ⟨e, rfl, he, fun m e' hm => absurd hm (Nat.not_lt_zero _)⟩
    · rename_i he
      cases h1 : indexD d es with
      | none => rw [h1] at h; cases h
      | some k =>
        rw [h1] at h
        cases h
        obtain ⟨e1, e2, e3, e4⟩ := index_get h1
        refine ⟨e1, e2, e3, fun m e' hm q => ?_⟩
        cases m with
        | zero => cases q; exact Bool.eq_false_iff.mpr he
        | succ m => exact e4 m e' (Nat.lt_of_succ_lt_succ hm) q
theorem Br.mono {K : PySem.W.Frag} {F F' : Hp} (s : Sub F F') {a : Addr} (h : Br K F a) : Br K F' a := by
  rcases h with ⟨o, u, e, d⟩ | h
  · exact .inl ⟨o, u, s _ _ e, d⟩
  · exact .inr h
theorem br_is {pins : List (Addr × Obj)} {σ : L2.St} {H : Hp} {s : Shared} {p : Addr} (I : Inv X pins σ H s) (h : Br X.K H p) : ∀ a, Value.ref p = .ref a → ∃ ob, s.heap.get? a = some ob ∧ ob.dict = none := by
  intro a e
  cases e
  rcases h with ⟨o, u, e, d⟩ | ⟨o, hk, d⟩
  · exact ⟨o, (show ObjOk X.prog X.w H s.heap p (.frz o u) from I.hok p _ e).1, d⟩
  · exact ⟨o, I.kIn p o hk, d⟩
theorem pe_ixA {o e : Expr} {to : TE} {t : TA} {apos cpos : Pos} {rL rT : V → List V → Hp → VK → Prop} (hmL : MtR X "list.index" rL) (hmT : MtR X "tuple.index" rT) (ho : PE X o to) (ha : PA X [e] t)
    (hbase : attributeBase o "index" X.env (eval o X.env) = eval o X.env)
    (hfew : ((backTo cpos (starEach [e] X.env)).all (fun x => !x.1) && (backToKw cpos (keywordEach [] X.env)).all (fun x => x.1.isSome) && decide ([e].length + ([] : List Keyword).length + (if ([] : List Keyword).isEmpty then 0 else 1) < 30)) = true)
    (hline : (apos.endLine == cpos.line) = true) (hs : starEach [e] X.env = (false, eval e X.env) :: starEach [] X.env) :
    PE X (.Call (.Attribute o "index" apos) [e] [] cpos) (fun σ H Q => to σ H fun x H1 => (tyV X.K "list" x H1 ∧ t σ H1 fun xs H2 => rL x xs H2 Q) ∨ ((∃ p xs, x = .ref p ∧ SqT X.K H1 p xs ∧ Br X.K H1 p) ∧ t σ H1 fun xs H2 => rT x xs H2 Q)) := by
  refine ⟨fun pins s σ H Q I h => ?_⟩
  refine wpAny_Call_method_late hbase hfew hline rfl (thn (ho.run pins s σ H _ I h) fun v s1 ⟨x, H1, I1, r1, q1⟩ => ?_)
  rcases q1 with ⟨ty, q1⟩ | ⟨⟨p, ys, rfl, hq, hb⟩, q1⟩
  · obtain ⟨h1, h2⟩ := tyV_is I1 r1 ty
    refine ⟨"list", "list.index", PySem.F.plainAttrs_list, PySem.F.slot_list_index, by first | rfl | kernel_rfl, h1, h2, ?_⟩
    have hA := ha.run cpos pins s1 σ H1 _ I1 q1
    rw [hs] at hA ⊢
    refine Calls.callWith_builtin (by show (false || (backTo cpos (starEach [] X.env)).any (·.1)) = false; rfl) (Calls.evalArgs_plain ?_)
    exact thn hA fun us s2 ⟨vs, H2, I2, r2, q2⟩ => hmL pins s2 σ H2 x vs v us Q I2 r1 r2 q2
  · cases r1
    obtain ⟨its, r, pl, hz⟩ := I1.tuple hq
    refine ⟨"tuple", "tuple.index", PySem.F.plainAttrs_tuple, PySem.F.slot_tuple_index, by first | rfl | kernel_rfl, pl.typeIs, br_is I1 hb, ?_⟩
    have hA := ha.run cpos pins s1 σ H1 _ I1 q1
    rw [hs] at hA ⊢
    refine Calls.callWith_builtin (by show (false || (backTo cpos (starEach [] X.env)).any (·.1)) = false; rfl) (Calls.evalArgs_plain ?_)
    exact thn hA fun us s2 ⟨vs, H2, I2, r2, q2⟩ => hmT pins s2 σ H2 (.ref p) vs (.ref p) us Q I2 rfl r2 q2
theorem sS_inj {a b : List Nat} (h : sS a = sS b) : a = b := by
  have : a.toArray = b.toArray := congrArg Str.cps h
  simpa using this
theorem Reps.strs {K : PySem.W.Frag} {F : Hp} : ∀ {ds : List D} {vs : List V}, Reps K F ds vs → ds.all flatS = true → ∃ xs : List (List Nat), ds = xs.map D.str ∧ vs = (xs.map sS).map V.str
  | [], _, h, _ => ⟨[], rfl, by rw [show _ = [] from h]; rfl⟩
  | d :: ds, _, ⟨v, r, e, q, z⟩, h => by
    subst e
    rw [List.all_cons, Bool.and_eq_true] at h
    obtain ⟨xs, h1, h2⟩ := Reps.strs z h.2
    cases d with
    | str x => exact ⟨x :: xs, by rw [h1]; rfl, by rw [h2, show v = V.str (sS x) from q]; rfl⟩
    | _ => cases h.1
theorem s_index {o a : Expr} {co ca : C} {apos cpos : Pos} (hK : X.K = M.K) (hb : baseOk o = true) (hl : (apos.endLine == cpos.line) = true) (h1 : noStar a = true) (ho : PE X o (tC M Φ co E)) (ha : PE X a (tC M Φ ca E)) :
    PE X (.Call (.Attribute o "index" apos) [a] [] cpos) (tC M Φ (.b2 .index co ca) E) := by
  refine (pe_ixA mt_index mt_tup_index ho (pa_cons ha pa_nil (star_of h1)) (base_ok hb) (by rw [star_one h1] <;> rfl) hl (star_of h1)).imp fun σ H Q ⟨g, H0, δ, s, w, so, h⟩ => ?_
  unfold evC at h
  refine tC.bind w so h fun v H1 g1 x s1 l1 w1 so1 r1 h1 => ?_
  cases x with
  | d x =>
    cases x with
    | lst ds =>
      rw [if_pos (show fstOk .index (.d (.lst ds)) = true from rfl)] at h1
      obtain ⟨a, vs, rfl, q1, q2⟩ := r1
      refine .inl ⟨.inl ⟨rfl, vs, SqL.of (w1.sub _ _ q1)⟩, ?_⟩
      refine tC.bind w1 so1 h1 fun u H2 g2 z s2 l2 w2 so2 r2 h2 => ?_
      cases z with
      | d z =>
        simp only [b2R] at h2
        split at h2
        · rename_i hf
          rw [Bool.and_eq_true] at hf
          cases hi : indexD z ds with
          | none => rw [hi] at h2; exact False.elim h2
          | some n =>
            rw [hi] at h2
            have fd := List.all_eq_true.mp hf.1
            have int_of : ∀ {d : G.D}, G.flat d = true → ∃ i, d = .int i := fun {d} h => by cases d <;> first | exact ⟨_, rfl⟩ | cases h
            obtain ⟨iz, rfl⟩ := int_of hf.2
            obtain ⟨e1, e2, e3, e4⟩ := index_get hi
            obtain ⟨ie, rfl⟩ := int_of (fd _ (List.mem_of_getElem? e2))
            have q3 := q2.mono l2.fr
            obtain ⟨v1, g1, g2'⟩ := q3.get e2
            have ev1 : v1 = V.int ie := g2'
            subst ev1
            have eu : u = V.int iz := r2
            subst eu
            refine ⟨a, vs, .int iz, n, .int ie, rfl, rfl, SqL.of (w2.sub _ _ (l2.fr _ _ q1)), rfl, Reps.flatI q3 hf.1, g1, ?_, fun m z' hm hz' => ?_, Post.pure w2 h2 rfl⟩
            · exact (show (ie == iz) = true from e3)
            · obtain ⟨d', k1, k2⟩ := q3.getV hz'
              obtain ⟨i', rfl⟩ := int_of (fd _ (List.mem_of_getElem? k1))
              have ez : z' = V.int i' := k2
              subst ez
              exact (show (i' == iz) = false from e4 m _ hm k1)
        · exact False.elim h2
      | _ => exact False.elim h2
    | tup ds =>
      rw [if_pos (show fstOk .index (.d (.tup ds)) = true from rfl)] at h1
      obtain ⟨a, vs, rfl, q1, q2⟩ := r1
      refine .inr ⟨⟨a, vs, rfl, by rw [hK]; exact q1.mono' w1, by rw [hK]; exact q1.2.mono w1.sub⟩, ?_⟩
      refine tC.bind w1 so1 h1 fun u H2 g2 z s2 l2 w2 so2 r2 h2 => ?_
      cases z with
      | d z =>
        simp only [b2R] at h2
        split at h2
        · rename_i hf
          rw [Bool.and_eq_true] at hf
          cases hi : indexD z ds with
          | none => rw [hi] at h2; exact False.elim h2
          | some n =>
            rw [hi] at h2
            obtain ⟨zs, rfl⟩ : ∃ zs, z = .str zs := by
              have := hf.2
              cases z <;> first | exact ⟨_, rfl⟩ | cases this
            obtain ⟨xs, rfl, rfl⟩ := q2.strs hf.1
            obtain ⟨e1, e2, e3, e4⟩ := index_get hi
            rw [List.getElem?_map] at e2
            cases ex : xs[n]? with
            | none => rw [ex] at e2; cases e2
            | some x =>
              rw [ex] at e2
              cases e2
              have exz : x = zs := eq_of_beq (show (x == zs) = true from e3)
              subst exz
              have eu : u = V.str (sS x) := r2
              subst eu
              refine ⟨a, xs.map sS, sS x, n, rfl, rfl, by rw [hK]; exact (((Le.trans (Le.refl _ _) l2).fr).sqB q1).mono' w2, by rw [List.getElem?_map, ex]; rfl, fun m hm hz => ?_, Post.pure w2 h2 rfl⟩
              rw [List.getElem?_map] at hz
              cases em : xs[m]? with
              | none => rw [em] at hz; cases hz
              | some y =>
                rw [em] at hz
                have hy : y = x := sS_inj (Option.some.inj hz)
                have := e4 m (.str y) hm (by rw [List.getElem?_map, em]; rfl)
                rw [hy] at this
                have h5 : eqD (.str x) (.str x) = true := beq_self_eq_true x
                exact Bool.noConfusion (h5.symm.trans this)
        · exact False.elim h2
      | _ => exact False.elim h2
    | _ => exact False.elim h1
  | _ => exact False.elim h1
end
end G
end
section
set_option Elab.async false
set_option linter.all false
set_option maxRecDepth 100000
set_option maxHeartbeats 1000000
/-! the program's syntax against the codes: a check that the kernel runs -/
namespace G
open PySem PySem.Spec PyProof.Rows L2
/-- what the names of the module stand for -/
structure Kt where
  fns : List (Str × Nat)
  gls : List (Str × Nat)
  exs : List (Str × Nat)
  fre : List Str
  told : Bool
/-- a built-in's name that the module leaves as it is -/
def nameB (kt : Kt) (Γ : Ga) (x y : Str) : Bool := decide (x = y) && nameG Γ x && decide (x ∈ kt.fre)
def b1Name : B1 → Option Str
  | .len => some "len" | .all => some "all" | .any => some "any" | .sum => some "sum" | .tuple => some "tuple" | .list => some "list" | .sorted => some "sorted" | .min => some "min" | .max => some "max" | .abs => some "abs" | .int => some "int"
  | _ => none
def b2Name : B2 → Option Str
  | .min2 => some "min" | .max2 => some "max"
  | _ => none
def tyStr : Ty → Str
  | .int => "int" | .bool => "bool" | .str => "str" | .tuple => "tuple" | .list => "list"
def constS : D → Const → Bool
  | .int i, .int j => decide (i = j)
  | .bl i, .bool j => i == j
  | .str x, .str y => decide (y = sS x)
  | .non, .none => true
  | _, _ => false
def binS : Bop → Operator → Bool
  | .add, .Add => true | .sub, .Sub => true | .mul, .Mult => true | .fdiv, .FloorDiv => true | .mod, .Mod => true | .pow, .Pow => true
  | _, _ => false
def cmpS : Cop → CmpOp → Bool
  | .eq, .Eq => true | .ne, .NotEq => true | .lt, .Lt => true | .le, .LtE => true | .gt, .Gt => true | .ge, .GtE => true | .isN, .Is => true | .notN, .IsNot => true | .isIn, .In => true | .notIn, .NotIn => true
  | _, _ => false
def foldS : Expr → Bool
  | .Set .. => false
  | .SetComp .. => false
  | _ => true
def yesC : C → Bool
  | .k (.bl true) => true
  | _ => false
/-- the operands behind the first -/
def restB (op : BoolOp) (y : Expr) (r : List Expr) (p : Pos) : Expr := match r with
  | [] => y
  | _ => .BoolOp op (y :: r) p
/-- a slice's part -/
def chkO (c : C) (l : Option Expr) (f : Expr → Bool) : Bool := match l with
  | none => noPart c
  | some l => !noPart c && f l
def isLS : B1 → Bool
  | .lenset => true
  | .lrev => true
  | _ => false
def lsN1 : B1 → Str
  | .lrev => "list"
  | _ => "len"
def lsN2 : B1 → Str
  | .lrev => "reversed"
  | _ => "set"
def isIx : B2 → Bool
  | .index => true
  | _ => false
/-- -1 -/
def isNeg1 : Expr → Bool
  | .UnaryOp .USub (.Constant (.int i) _ _) _ => decide (i = 1)
  | _ => false
/-- no list of a slot's own -/
def noP : It → Bool
  | .p _ => false
  | _ => true
/-- may be a test -/
def tOk : Expr → Bool
  | .IfExp .. => false
  | _ => true
/-- no parameters -/
def noArgs : Arguments → Bool
  | ⟨[], [], none, [], [], none, []⟩ => true
  | _ => false
def noSc : Scope := ⟨.function, [], false, false, []⟩
mutual
def chkE (kt : Kt) : C → Ga → Expr → Bool
  | .no, _, _ => true
  | .v i, Γ, e => (match e with
    | .Name x _ => nameV Γ i x
    | _ => false)
  | .gl n, Γ, e => (match e with
    | .Name x _ => nameG Γ x && decide (kt.gls.lookup x = some n)
    | _ => false)
  | .k d, _, e => (match e with
    | .Constant c _ _ => constS d c
    | _ => false)
  | .bin o a b, Γ, e => (match e with
    | .BinOp x op y _ => binS o op && chkE kt a Γ x && chkE kt b Γ y
    | _ => false)
  | .neg a, Γ, e => (match e with
    | .UnaryOp .USub x _ => chkE kt a Γ x
    | _ => false)
  | .not_ a, Γ, e => (match e with
    | .UnaryOp .Not x _ => chkE kt a Γ x && tOk x
    | _ => false)
  | .and_ a b, Γ, e => (match e with
    | .BoolOp .And (x :: y :: r) p => chkE kt a Γ x && chkE kt b Γ (restB .And y r p) && tOk x && tOk y
    | _ => false)
  | .or_ a b, Γ, e => (match e with
    | .BoolOp .Or (x :: y :: r) p => chkE kt a Γ x && chkE kt b Γ (restB .Or y r p) && tOk x && tOk y
    | _ => false)
  | .cmp o a b, Γ, e => (match e with
    | .Compare x [op] [y] _ => cmpS o op && chkE kt a Γ x && chkE kt b Γ y && !behindInMarks op y
    | _ => false)
  | .chain o p a b c, Γ, e => (match e with
    | .Compare x [op, op'] [y, z] _ => cmpS o op && cmpS p op' && chkE kt a Γ x && chkE kt b Γ y && chkE kt c Γ z && !lastMarks [op, op'] [y, z]
    | _ => false)
  | .ife t a b, Γ, e => (match e with
    | .IfExp x y z _ => chkE kt t Γ x && chkE kt a Γ y && chkE kt b Γ z && tOk x
    | _ => false)
  | .tup es, Γ, e => (match e with
    | .Tuple xs _ _ => xs.all noStar && chkEs kt es Γ xs
    | _ => false)
  | .lst es, Γ, e => (match e with
    | .List xs _ => xs.all noStar && chkEs kt es Γ xs
    | _ => false)
  | .ix a i, Γ, e => (match e with
    | .Subscript x y _ => noSlice y && chkE kt a Γ x && chkE kt i Γ y
    | _ => false)
  | .sl a lo hi, Γ, e => (match e with
    | .Subscript x (.Slice l h none _) _ => chkE kt a Γ x && chkO lo l (fun l => chkE kt lo Γ l) && chkO hi h (fun h => chkE kt hi Γ h)
    | _ => false)
  | .lc is tup it cond elt, Γ, e => (match e with
    | .ListComp e [⟨tg, iter, ifs, 0⟩] scope _ => blkC Γ.N Γ.sc scope (ownOfN Γ is) && tgS ⟨Γ.N, relS scope Γ.sc, some scope, false⟩ tup is tg && chkI kt it Γ tg iter &&
      (match ifs with | [] => yesC cond | [c] => chkE kt cond ⟨Γ.N, relS scope Γ.sc, some scope, false⟩ c && tOk c | _ => false) && chkE kt elt ⟨Γ.N, relS scope Γ.sc, some scope, false⟩ e && foldS iter
    | _ => false)
  | .call f es, Γ, e => (match e with
    | .Call (.Name x _) (a :: as) [] _ => nameG Γ x && decide (kt.fns.lookup x = some f) && (a :: as).all noStar && chkEs kt es Γ (a :: as)
    | _ => false)
  | .lrg a, Γ, e => (match e with
    | .Call (.Name x _) [.Call (.Name x2 _) [y] [] _] [] _ => nameB kt Γ x "list" && nameB kt Γ x2 "range" && noStar y && chkE kt a Γ y
    | _ => false)
  | .b1 f a, Γ, e => if isLS f = true then (match e with
      | .Call (.Name x _) [.Call (.Name x2 _) [y] [] _] [] _ => nameB kt Γ x (lsN1 f) && nameB kt Γ x2 (lsN2 f) && noStar y && chkE kt a Γ y
      | _ => false) else (match e with
      | .Call (.Name x _) [y] [] _ => (match b1Name f with | some n => nameB kt Γ x n | none => false) && noStar y && chkE kt a Γ y
      | _ => false)
  | .b2 f a b, Γ, e => if isIx f = true then (match e with
    | .Call (.Attribute o n apos) [y] [] cpos => decide (n = "index") && baseOk o && (apos.endLine == cpos.line) && noStar y && chkE kt a Γ o && chkE kt b Γ y
    | _ => false) else (match e with
    | .Call (.Name x _) [y, z] [] _ => (match b2Name f with | some n => nameB kt Γ x n | none => false) && noStar y && noStar z && chkE kt a Γ y && chkE kt b Γ z
    | _ => false)
  | .isi a t, Γ, e => (match e with
    | .Call (.Name x _) [y, .Name z _] [] _ => nameB kt Γ x "isinstance" && nameB kt Γ z (tyStr t) && noStar y && chkE kt a Γ y
    | _ => false)
  | .told c, Γ, e => (match e with
    | .Call (.Name x _) [.Lambda params body scope _] [] _ => decide (x = "_law_told") && Γ.lam && kt.told && nameG Γ "_law_told" && noArgs params && LamX.lamSB Γ.sc scope && chkE kt c ⟨Γ.N, scope, some noSc, false⟩ body
    | _ => false)
  | .nopart, _, _ => false
  | .rev a, Γ, e => (match e with
    | .Subscript x (.Slice none none (some z) _) _ => isNeg1 z && chkE kt a Γ x
    | _ => false)
  | .dc is it key val, Γ, e => (match e with
    | .DictComp kx vx [⟨tg, iter, [], 0⟩] scope _ => blkC Γ.N Γ.sc scope (ownOfN Γ is) && tgS ⟨Γ.N, relS scope Γ.sc, some scope, false⟩ true is tg && chkI kt it Γ tg iter &&
      chkE kt key ⟨Γ.N, relS scope Γ.sc, some scope, false⟩ kx && chkE kt val ⟨Γ.N, relS scope Γ.sc, some scope, false⟩ vx && foldS iter
    | _ => false)
def chkEs (kt : Kt) : Cs → Ga → List Expr → Bool
  | .nil, _, es => (match es with
    | [] => true
    | _ => false)
  | .cons c cs, Γ, es => (match es with
    | e :: es => chkE kt c Γ e && chkEs kt cs Γ es
    | _ => false)
def chkI (kt : Kt) : It → Ga → Expr → Expr → Bool
  | .e a, Γ, _, x => chkE kt a Γ x
  | .p i, Γ, _, e => (match e with
    | .Name x _ => nameV Γ i x
    | _ => false)
  | .rng a, Γ, _, e => (match e with
    | .Call (.Name x _) [y] [] _ => nameB kt Γ x "range" && noStar y && chkE kt a Γ y
    | _ => false)
  | .rng2 a b, Γ, _, e => (match e with
    | .Call (.Name x _) [y, z] [] _ => nameB kt Γ x "range" && noStar y && noStar z && chkE kt a Γ y && chkE kt b Γ z
    | _ => false)
  | .enum a, Γ, tg, e => (match tg, e with
    | .Tuple _ _ _, .Call (.Name x _) [y] [] _ => nameB kt Γ x "enumerate" && noStar y && chkE kt a Γ y
    | _, _ => false)
  | .rev a, Γ, _, e => (match e with
    | .Call (.Name x _) [y] [] _ => nameB kt Γ x "reversed" && noStar y && chkE kt a Γ y
    | _ => false)
  | .revr _, _, _, _ => false
  | .zip _ _, _, _, _ => false
end
structure KtOk (U : Wd) (Φ : Nat → Option Fn) (L : Nat) (kt : Kt) : Prop where
  fns : ∀ x i, kt.fns.lookup x = some i → ∃ k n φ, FOk U k x n φ ∧ k ≤ L ∧ Φ i = some φ
  gls : ∀ x i, kt.gls.lookup x = some i → ∃ u v, U.mg x = some u ∧ RelV v u ∧ ∀ F, Rep U.M.K F (U.M.gl i) v
  exs : ∀ x i, kt.exs.lookup x = some i → EOk U x i
  fre : ∀ x, x ∈ kt.fre → U.mg x = none
  tld : kt.told = true → ToldOk U
section
variable {U : Wd} {L : Nat} {E : XK} {X : Cx} {Γ : Ga} {kt : Kt} {Φ : Nat → Option Fn}
theorem At.b (a : At U L Γ X) (ok : KtOk U Φ L kt) (F : Fit U L E X) {x y : Str} (h : nameB kt Γ x y = true) : x = y ∧ Gl X y ∧ X.mg y = none ∧ y ≠ "__name__" ∧ (y == ("__debug__" : Str)) = false := by
  unfold nameB at h
  simp only [Bool.and_eq_true, decide_eq_true_eq] at h
  obtain ⟨⟨rfl, h1⟩, h2⟩ := h
  obtain ⟨h3, h4, h5⟩ := a.g h1
  exact ⟨rfl, h3, by rw [F.mg]; exact ok.fre _ h2, h5, h4⟩
end
end G
end
section
set_option Elab.async false
set_option linter.all false
set_option maxRecDepth 100000
set_option maxHeartbeats 4000000
/-! what is checked is sound -/
namespace G
open PySem PySem.Spec PyProof.Rows L2
section
variable {U : Wd} {Φ : Nat → Option Fn} {kt : Kt}
/-- what is promised of an expression -/
structure SndE (U : Wd) (Φ : Nat → Option Fn) (L : Nat) (c : C) (e : Expr) (X : Cx) (E : XK) : Prop where
  pe : PE X e (tC U.M Φ c E)
  pt : tOk e = true → PT X e (tT U.M Φ c E)
  pw : ∀ op xs p, e = .BoolOp op xs p → PW X e (tT U.M Φ c E)
def GoodE (U : Wd) (Φ : Nat → Option Fn) (kt : Kt) (c : C) : Prop := ∀ (Γ : Ga) (e : Expr), chkE kt c Γ e = true → ∀ (L : Nat) (X : Cx) (E : XK), KtOk U Φ L kt → Fit U L E X → At U L Γ X → SndE U Φ L c e X E ∧ (isL c = true → PE X e (tF U.M Φ c E))
def GoodEs (U : Wd) (Φ : Nat → Option Fn) (kt : Kt) (cs : Cs) : Prop := ∀ (Γ : Ga) (es : List Expr), es.all noStar = true → chkEs kt cs Γ es = true → ∀ (L : Nat) (X : Cx) (E : XK), KtOk U Φ L kt → Fit U L E X → At U L Γ X → PA X es (tWs U.M Φ cs E) ∧ PA X es (tDs U.M Φ cs E)
def GoodI (U : Wd) (Φ : Nat → Option Fn) (kt : Kt) (it : It) : Prop := ∀ (Γ : Ga) (tg e : Expr), chkI kt it Γ tg e = true → ∀ (L : Nat) (X : Cx) (E : XK), KtOk U Φ L kt → Fit U L E X → At U L Γ X → (noP it = true → PI X tg e (tI U.M Φ it E)) ∧ PI X tg e (tIL U.M Φ it E)
theorem two_I {X : Cx} {tg e : Expr} {M : Mw} {Φ : Nat → Option Fn} {it : It} {E : XK} (h : PI X tg e (tI M Φ it E)) : (noP it = true → PI X tg e (tI M Φ it E)) ∧ PI X tg e (tIL M Φ it E) := ⟨fun _ => h, tI.toL h⟩
variable {L : Nat} {X : Cx} {E : XK} {Γ : Ga}
theorem GoodE.p {c : C} (g : GoodE U Φ kt c) {e : Expr} (h : chkE kt c Γ e = true) (ok : KtOk U Φ L kt) (F : Fit U L E X) (a : At U L Γ X) : PE X e (tP U.M Φ c E) := by
  by_cases hv : ∃ i, c = .v i
  · obtain ⟨i, rfl⟩ := hv
    cases e with
    | Name x p =>
      unfold chkE at h
      obtain ⟨h1, h2, h3, h4⟩ := a.v h
      exact s_pv h1 h2 h3 h4
    | _ => cases h
  · exact s_p (fun i z => hv ⟨i, z⟩) (g Γ e h L X E ok F a).1.pe
/-- no test of its own -/
def plainT : Expr → Bool
  | .BoolOp .. => false
  | .Compare .. => false
  | .UnaryOp .Not _ _ => false
  | .NamedExpr .. => false
  | .IfExp .. => false
  | _ => true
theorem SndE.val {c : C} {e : Expr} (h : PE X e (tC U.M Φ c E)) (hp : tOk e = true → ∀ whole, isTrue e X.env whole = (do let v ← whole; standAt e.pos; holding [v] (truthy v))) (hb : ∀ op xs p, e ≠ .BoolOp op xs p) : SndE U Φ L c e X E :=
  ⟨h, fun z => t_val h (hp z), fun op xs p z => absurd z (hb op xs p)⟩
theorem never_e {e : Expr} : PE X e (tC U.M Φ .no E) := ⟨fun pins s σ H Q I ⟨g, H0, δ, st, w, so, h⟩ => by
  unfold evC at h; exact False.elim h⟩
theorem never_t {e : Expr} : PT X e (tT U.M Φ .no E) := ⟨fun pins s σ H Q I ⟨g, H0, δ, st, w, so, h⟩ => by
  unfold evC at h; exact False.elim h⟩
theorem never_w {e : Expr} : PW X e (tT U.M Φ .no E) := ⟨fun wh pins s σ H Q I ⟨g, H0, δ, st, w, so, h⟩ => by
  unfold evC at h; exact False.elim h⟩
theorem tT_yes {c : C} (h : yesC c = true) {σ : L2.St} {H : Hp} {Q : Bool → Hp → Prop} (q : tT U.M Φ c E σ H Q) : tYes σ H Q := by
  obtain ⟨g, H0, δ, s, w, so, q⟩ := q
  cases c with
  | k d =>
    cases d with
    | bl b =>
      cases b with
      | true =>
        unfold evC at q
        exact q true g H (Le.refl _ _) w rfl
      | false => cases h
    | _ => cases h
  | _ => cases h
theorem fold_ok {iter : Expr} (h : foldS iter = true) (env : PySem.Env) : ∀ x, foldedSetIterable iter env x = pure x := by
  cases iter <;> first | (intro _; rfl) | cases h
mutual
theorem good_e (U : Wd) (Φ : Nat → Option Fn) (kt : Kt) : ∀ c : C, GoodE U Φ kt c
  | .no => fun Γ e h L X E ok F a => ⟨⟨never_e, fun _ => never_t, fun _ _ _ _ => never_w⟩, fun z => by cases z⟩
  | .nopart => fun Γ e h L X E ok F a => by cases e <;> cases h
  | .v i => fun Γ e h L X E ok F a => by
    cases e with
    | Name x p =>
      unfold chkE at h
      obtain ⟨h1, h2, h3, h4⟩ := a.v h
      exact ⟨.val (s_v h1 h2 h3 h4) (fun _ _ => rfl) (fun _ _ _ z => by cases z), fun z => by cases z⟩
    | _ => cases h
  | .k d => fun Γ e h L X E ok F a => by
    cases e with
    | Constant c j p =>
      have h : constS d c = true := by unfold chkE at h; exact h
      have : PE X (.Constant c j p) (tC U.M Φ (.k d) E) := by
        unfold constS at h
        split at h
        · rw [of_decide_eq_true h]; exact s_int
        · rw [eq_of_beq h]; exact s_bl
        · exact s_str (of_decide_eq_true h)
        · exact s_non
        · cases h
      exact ⟨.val this (fun _ _ => rfl) (fun _ _ _ z => by cases z), fun z => by cases z⟩
    | _ => cases h
  | .gl n => fun Γ e h L X E ok F a => by
    cases e with
    | Name x p =>
      unfold chkE at h
      rw [Bool.and_eq_true, decide_eq_true_eq] at h
      obtain ⟨h1, h2, h3⟩ := a.g h.1
      obtain ⟨u, v, h4, h5, h6⟩ := ok.gls x n h.2
      exact ⟨.val (s_gl h1 (by rw [F.mg]; exact h4) h5 h6 h2) (fun _ _ => rfl) (fun _ _ _ z => by cases z), fun z => by cases z⟩
    | _ => cases h
  | .bin o c1 c2 => fun Γ e h L X E ok F a => by
    cases e with
    | BinOp x op y p =>
      unfold chkE at h
      simp only [Bool.and_eq_true] at h
      have ha := (good_e U Φ kt c1 Γ x h.1.2 L X E ok F a).1.pe
      have hb := (good_e U Φ kt c2 Γ y h.2 L X E ok F a).1.pe
      have ho := h.1.1
      have : PE X (.BinOp x op y p) (tC U.M Φ (.bin o c1 c2) E) := by
        unfold binS at ho
        split at ho
        · exact s_add F.K ha hb
        · exact s_sub ha hb
        · exact s_mul F.K ha hb
        · exact s_fdiv ha hb
        · exact s_mod ha hb
        · exact s_pow ha hb
        · cases ho
      exact ⟨.val this (fun _ _ => rfl) (fun _ _ _ z => by cases z), fun z => by cases z⟩
    | _ => cases h
  | .neg c1 => fun Γ e h L X E ok F a => by
    cases e with
    | UnaryOp op x p =>
      cases op with
      | USub =>
        unfold chkE at h
        exact ⟨.val (s_neg (good_e U Φ kt c1 Γ x h L X E ok F a).1.pe) (fun _ _ => rfl) (fun _ _ _ z => by cases z), fun z => by cases z⟩
      | _ => cases h
    | _ => cases h
  | .not_ c1 => fun Γ e h L X E ok F a => by
    cases e with
    | UnaryOp op x p =>
      cases op with
      | Not =>
        unfold chkE at h
        rw [Bool.and_eq_true] at h
        have q := (good_e U Φ kt c1 Γ x h.1 L X E ok F a).1
        exact ⟨⟨s_not q.pe, fun _ => t_not (q.pt h.2), fun _ _ _ z => by cases z⟩, fun z => by cases z⟩
      | _ => cases h
    | _ => cases h
  | .and_ c1 c2 => fun Γ e h L X E ok F a => by
    cases e with
    | BoolOp op xs p =>
      cases op with
      | And =>
        cases xs with
        | nil => cases h
        | cons x xs =>
          cases xs with
          | nil => cases h
          | cons y r =>
            unfold chkE at h
            simp only [Bool.and_eq_true] at h
            have q1 := (good_e U Φ kt c1 Γ x h.1.1.1 L X E ok F a).1
            have q2 := (good_e U Φ kt c2 Γ _ h.1.1.2 L X E ok F a).1
            have e2 : PE X (.BoolOp .And (y :: r) p) (tC U.M Φ c2 E) := by
              cases r with
              | nil => exact pe_one q2.pe
              | cons z r => exact q2.pe
            have w2 : PW X (.BoolOp .And (y :: r) p) (tT U.M Φ c2 E) := by
              cases r with
              | nil => exact pw_and1 (q2.pt h.2)
              | cons z r => exact q2.pw _ _ _ rfl
            have w := t_and (Φ := Φ) (ca := c1) (q1.pt h.1.2) w2
            exact ⟨⟨s_and q1.pe e2, fun _ => w.pt, fun _ _ _ _ => w⟩, fun z => by cases z⟩
      | Or => cases xs with
        | nil => cases h
        | cons x xs => cases xs <;> cases h
    | _ => cases h
  | .or_ c1 c2 => fun Γ e h L X E ok F a => by
    cases e with
    | BoolOp op xs p =>
      cases op with
      | Or =>
        cases xs with
        | nil => cases h
        | cons x xs =>
          cases xs with
          | nil => cases h
          | cons y r =>
            unfold chkE at h
            simp only [Bool.and_eq_true] at h
            have q1 := (good_e U Φ kt c1 Γ x h.1.1.1 L X E ok F a).1
            have q2 := (good_e U Φ kt c2 Γ _ h.1.1.2 L X E ok F a).1
            have e2 : PE X (.BoolOp .Or (y :: r) p) (tC U.M Φ c2 E) := by
              cases r with
              | nil => exact pe_one q2.pe
              | cons z r => exact q2.pe
            have w2 : PW X (.BoolOp .Or (y :: r) p) (tT U.M Φ c2 E) := by
              cases r with
              | nil => exact pw_or1 (q2.pt h.2)
              | cons z r => exact q2.pw _ _ _ rfl
            have w := t_or (Φ := Φ) (ca := c1) (q1.pt h.1.2) w2
            exact ⟨⟨s_or q1.pe e2, fun _ => w.pt, fun _ _ _ _ => w⟩, fun z => by cases z⟩
      | And => cases xs with
        | nil => cases h
        | cons x xs => cases xs <;> cases h
    | _ => cases h
  | .cmp o c1 c2 => fun Γ e h L X E ok F a => by
    cases e with
    | Compare x ops ys p =>
      cases ops with
      | nil => cases h
      | cons op ops =>
        cases ops with
        | cons _ _ => cases ys with
          | nil => cases h
          | cons y ys => cases ys <;> cases h
        | nil =>
          cases ys with
          | nil => cases h
          | cons y ys =>
            cases ys with
            | cons _ _ => cases h
            | nil =>
              unfold chkE at h
              simp only [Bool.and_eq_true, Bool.not_eq_true'] at h
              have ha := (good_e U Φ kt c1).p h.1.1.2 ok F a
              have hb := (good_e U Φ kt c2).p h.1.2 ok F a
              have ho : OpR X (compareOp op) (rDat X U.M E o) := by
                have ho := h.1.1.1
                unfold cmpS at ho
                split at ho
                · exact o_eq F.K F.room
                · exact o_ne F.K F.room
                · exact o_lt F.K F.room
                · exact o_le
                · exact o_gt
                · exact o_ge
                · exact o_isN
                · exact o_notN
                · exact o_in F.prog F.w F.K F.room
                · exact o_notIn F.prog F.w F.K F.room
                · cases ho
              exact ⟨⟨s_cmp ho ha hb h.2, fun _ => t_cmp ho ha hb h.2, fun _ _ _ z => by cases z⟩, fun z => by cases z⟩
    | _ => cases h
  | .chain o o2 c1 c2 c3 => fun Γ e h L X E ok F a => by
    cases e with
    | Compare x ops ys p =>
      unfold chkE at h
      split at h
      rotate_left
      · cases h
      rename_i e1
      cases e1
      simp only [Bool.and_eq_true, Bool.not_eq_true'] at h
      have ha := (good_e U Φ kt c1 Γ _ h.1.1.1.2 L X E ok F a).1.pe
      have hb := (good_e U Φ kt c2 Γ _ h.1.1.2 L X E ok F a).1.pe
      have hc := (good_e U Φ kt c3 Γ _ h.1.2 L X E ok F a).1.pe
      have hop : ∀ (o : Cop) (op : CmpOp), cmpS o op = true → OpR X (compareOp op) (rDat X U.M E o) := fun o op ho => by
        unfold cmpS at ho
        split at ho
        · exact o_eq F.K F.room
        · exact o_ne F.K F.room
        · exact o_lt F.K F.room
        · exact o_le
        · exact o_gt
        · exact o_ge
        · exact o_isN
        · exact o_notN
        · exact o_in F.prog F.w F.K F.room
        · exact o_notIn F.prog F.w F.K F.room
        · cases ho
      exact ⟨⟨s_chain (hop _ _ h.1.1.1.1.1) (hop _ _ h.1.1.1.1.2) ha hb hc h.2, fun _ => t_chain (hop _ _ h.1.1.1.1.1) (hop _ _ h.1.1.1.1.2) ha hb hc h.2, fun _ _ _ z => by cases z⟩, fun z => by cases z⟩
    | _ => cases h
  | .ife ct c1 c2 => fun Γ e h L X E ok F a => by
    cases e with
    | IfExp x y z p =>
      unfold chkE at h
      simp only [Bool.and_eq_true] at h
      exact ⟨.val (s_ife ((good_e U Φ kt ct Γ x h.1.1.1 L X E ok F a).1.pt h.2) (good_e U Φ kt c1 Γ y h.1.1.2 L X E ok F a).1.pe (good_e U Φ kt c2 Γ z h.1.2 L X E ok F a).1.pe) (fun z => by cases z) (fun _ _ _ z => by cases z), fun z => by cases z⟩
    | _ => cases h
  | .tup cs => fun Γ e h L X E ok F a => by
    cases e with
    | Tuple xs k p =>
      unfold chkE at h
      rw [Bool.and_eq_true] at h
      exact ⟨.val (s_tup (good_es U Φ kt cs Γ xs h.1 h.2 L X E ok F a).2) (fun _ _ => rfl) (fun _ _ _ z => by cases z), fun z => by cases z⟩
    | _ => cases h
  | .lst cs => fun Γ e h L X E ok F a => by
    cases e with
    | List xs p =>
      unfold chkE at h
      rw [Bool.and_eq_true] at h
      have q := (good_es U Φ kt cs Γ xs h.1 h.2 L X E ok F a).2
      exact ⟨.val (s_lst q) (fun _ _ => rfl) (fun _ _ _ z => by cases z), fun _ => f_lst q⟩
    | _ => cases h
  | .ix c1 c2 => fun Γ e h L X E ok F a => by
    cases e with
    | Subscript x y p =>
      have h : (noSlice y && chkE kt c1 Γ x && chkE kt c2 Γ y) = true := by unfold chkE at h; exact h
      simp only [Bool.and_eq_true] at h
      exact ⟨.val (s_ix (by have := F.room.units; omega) F.K ((good_e U Φ kt c1).p h.1.2 ok F a) (good_e U Φ kt c2 Γ y h.2 L X E ok F a).1.pe (plainIx_of h.1.1)) (fun _ _ => rfl) (fun _ _ _ z => by cases z), fun z => by cases z⟩
    | _ => cases h
  | .sl c1 lo hi => fun Γ e h L X E ok F a => by
    cases e with
    | Subscript x y p =>
      unfold chkE at h
      split at h
      rotate_left
      · cases h
      rename_i e1
      cases e1
      simp only [Bool.and_eq_true] at h
      have part : ∀ (c : C) (l : Option Expr), GoodE U Φ kt c → chkO c l (fun l => chkE kt c Γ l) = true → PO X l (tO U.M Φ c E) := fun c l g q => by
        cases l with
        | none =>
          have q : noPart c = true := q
          cases c <;> first | exact s_nopart | cases q
        | some l =>
          have q : (!noPart c && chkE kt c Γ l) = true := q
          rw [Bool.and_eq_true] at q
          refine s_part (fun z => ?_) (g Γ l q.2 L X E ok F a).1.pe
          subst z
          cases q.1
      exact ⟨.val (s_sl F.K (good_e U Φ kt c1 Γ _ h.1.1 L X E ok F a).1.pe (part lo _ (good_e U Φ kt lo) h.1.2) (part hi _ (good_e U Φ kt hi) h.2)) (fun _ _ => rfl) (fun _ _ _ z => by cases z), fun z => by cases z⟩
    | _ => cases h
  | .told c1 => fun Γ e h L X E ok F a => by
    cases e with
    | Call fn args kws p =>
      unfold chkE at h
      split at h
      rotate_left
      · cases h
      rename_i params body scope lpos _ e1
      cases e1
      simp only [Bool.and_eq_true, decide_eq_true_eq] at h
      obtain ⟨⟨⟨⟨⟨⟨rfl, h1⟩, h2⟩, h3⟩, h4⟩, h5⟩, h6⟩ := h
      have hp : params = ⟨[], [], none, [], [], none, []⟩ := by
        unfold noArgs at h4
        split at h4
        · rfl
        · cases h4
      subst hp
      have S := LamX.lamS_by h5
      rw [← a.sc] at S
      refine ⟨.val (s_told (c := c1) (params := ⟨[], [], none, [], [], none, []⟩) (lpos := lpos) (pos := p) (body := body) (E := E) (ok.tld h2) F (a.lam h1) S (a.g h3).1 rfl (fun _ _ _ _ _ => rfl) (fun A outer s H E2 f c' hr => by
        refine (good_e U Φ kt c1 _ body h6 L _ E2 ok ?_ ?_).1.pe
        · exact ⟨F.prog, F.w, F.K, F.mg, F.base, hr, rfl, F.nd, by
            have tk : L2N.Takes (lamX X A outer s H E2 scope f c') (fun c d _ H => E2 c d H) := L2N.takes_of rfl rfl rfl rfl
            have := L2N.passes_call (E := E2) tk (fun _ _ _ _ h => h)
            rw [← F.prog, ← F.w]
            exact this, S.kind⟩
        · exact ⟨a.N, rfl, ⟨fun x => rfl, .inr rfl⟩, fun z => by cases z⟩)) (fun _ _ => rfl) (fun _ _ _ z => by cases z), fun z => by cases z⟩
    | _ => cases h
  | .rev c1 => fun Γ e h L X E ok F a => by
    cases e with
    | Subscript x sl p =>
      unfold chkE at h
      split at h
      rotate_left
      · cases h
      rename_i x' z p2 p' e1
      cases e1
      simp only [Bool.and_eq_true] at h
      have hz := h.1
      unfold isNeg1 at hz
      split at hz
      rotate_left
      · cases hz
      have hz := of_decide_eq_true hz
      subst hz
      exact ⟨.val (s_rev F.K (good_e U Φ kt c1 Γ _ h.2 L X E ok F a).1.pe) (fun _ _ => rfl) (fun _ _ _ z => by cases z), fun z => by cases z⟩
    | _ => cases h
  | .dc is it key val => fun Γ e h L X E ok F a => by
    cases e with
    | DictComp kx vx gs scope p =>
      unfold chkE at h
      split at h
      rotate_left
      · cases h
      rename_i kx' vx' tg iter scope' p' e1
      cases e1
      simp only [Bool.and_eq_true] at h
      have hk : scope.kind = .function := by
        have := h.1.1.1.1.1
        unfold blkC at this
        simp only [Bool.and_eq_true] at this
        have := this.1.1.1
        split at this
        · rename_i e; exact e
        · cases this
      have ok2 : BlkOk X.N X.env.scope scope (ownOfN Γ is) := by
        rw [a.N, a.sc]
        exact blkOk_by h.1.1.1.1.1
      have fit : ∀ (s : Shared) (H : Hp) (C : Addr) (cl : List (Str × Addr)) (fp : List Addr), Fit U L noE (X.blk s H scope (compEnvC scope cl C X.env) fp) := fun s H C cl fp => F.blk hk
      have ff := s_dc (Φ := Φ) (pos := p) F.K F.calm F.nd (own_map Γ is) (good_i U Φ kt it Γ tg iter h.1.1.1.2 L X E ok F a).2 ok2 (fun s H C cl fp => a.blkA.tg (fit s H C cl fp) h.1.1.1.1.2)
        (fun s H C cl fp => (good_e U Φ kt key _ kx h.1.1.2 L _ noE ok (fit s H C cl fp) a.blkA).1.pe) (fun s H C cl fp => (good_e U Φ kt val _ vx h.1.2 L _ noE ok (fit s H C cl fp) a.blkA).1.pe) (fold_ok h.2 _)
      exact ⟨.val ff (fun _ _ => rfl) (fun _ _ _ z => by cases z), fun z => by cases z⟩
    | _ => cases h
  | .lc is tup it cond elt => fun Γ e h L X E ok F a => by
    cases e with
    | ListComp x gs scope p =>
      unfold chkE at h
      split at h
      rotate_left
      · cases h
      rename_i x' tg iter ifs scope' p' e1
      cases e1
      simp only [Bool.and_eq_true] at h
      have hk : scope.kind = .function := by
        have := h.1.1.1.1.1
        unfold blkC at this
        simp only [Bool.and_eq_true] at this
        have := this.1.1.1
        split at this
        · rename_i e; exact e
        · cases this
      have ok2 : BlkOk X.N X.env.scope scope (ownOfN Γ is) := by
        rw [a.N, a.sc]
        exact blkOk_by h.1.1.1.1.1
      have fit : ∀ (s : Shared) (H : Hp) (C : Addr) (cl : List (Str × Addr)) (fp : List Addr), Fit U L noE (X.blk s H scope (compEnvC scope cl C X.env) fp) := fun s H C cl fp => F.blk hk
      have ht : ∀ (s : Shared) (H : Hp) (C : Addr) (cl : List (Str × Addr)) (fp : List Addr), PTs (X.blk s H scope (compEnvC scope cl C X.env) fp) ifs (tT U.M Φ cond noE) := fun s H C cl fp => by
        have hc := h.1.1.2
        cases ifs with
        | nil => exact pts_nil.imp fun σ H Q q => tT_yes hc q
        | cons c1 r =>
          cases r with
          | nil =>
            rw [Bool.and_eq_true] at hc
            exact pts_one ((good_e U Φ kt cond _ c1 hc.1 L _ noE ok (fit s H C cl fp) a.blkA).1.pt hc.2)
          | cons _ _ => cases hc
      have ff := f_lc (Φ := Φ) (pos := p) (elt := x) F.K F.calm F.nd (own_map Γ is) (good_i U Φ kt it Γ tg iter h.1.1.1.2 L X E ok F a).2 ok2 (fun s H C cl fp => a.blkA.tg (fit s H C cl fp) h.1.1.1.1.2) ht
        (fun s H C cl fp => (good_e U Φ kt elt _ x h.1.2 L _ noE ok (fit s H C cl fp) a.blkA).1.pe) (fold_ok h.2 _)
      exact ⟨.val (s_ofF ff fun δ s w s' => ev_lc (gl := U.M.gl)) (fun _ _ => rfl) (fun _ _ _ z => by cases z), fun _ => ff⟩
    | _ => cases h
  | .call f cs => fun Γ e h L X E ok F a => by
    cases e with
    | Call fn args kws p =>
      unfold chkE at h
      split at h
      rotate_left
      · cases h
      rename_i e1
      cases e1
      simp only [Bool.and_eq_true, decide_eq_true_eq] at h
      obtain ⟨h1, h2, h3⟩ := a.g h.1.1.1
      obtain ⟨k, n, φ, fo, hk, hΦ⟩ := ok.fns _ f h.1.1.2
      exact ⟨.val (s_call F fo hk hΦ h1 h2 h.1.2 (good_es U Φ kt cs Γ _ h.1.2 h.2 L X E ok F a).1) (fun _ _ => rfl) (fun _ _ _ z => by cases z), fun z => by cases z⟩
    | _ => cases h
  | .lrg c1 => fun Γ e h L X E ok F a => by
    cases e with
    | Call fn args kws p =>
      unfold chkE at h
      split at h
      rotate_left
      · cases h
      rename_i e1
      cases e1
      simp only [Bool.and_eq_true] at h
      obtain ⟨rfl, hg, hm, h1, h2⟩ := a.b ok F h.1.1.1
      obtain ⟨rfl, hg2, hm2, h12, h22⟩ := a.b ok F h.1.1.2
      have ff := fun p0 p1 p2 => f_lrg (Φ := Φ) (p := p0) (p2 := p1) (pos2 := p2) (pos := p) F.calm hg hm hg2 hm2 h.1.2 (good_e U Φ kt c1 Γ _ h.2 L X E ok F a).1.pe
      exact ⟨.val (s_ofF (ff _ _ _) (isL_ok (by rfl))) (fun _ _ => rfl) (fun _ _ _ z => by cases z), fun _ => ff _ _ _⟩
    | _ => cases h
  | .b1 f c1 => fun Γ e h L X E ok F a => by
    by_cases hf : isLS f = true
    · unfold chkE at h
      rw [if_pos hf] at h
      have hf2 : f = .lenset ∨ f = .lrev := by cases f <;> first | exact .inl rfl | exact .inr rfl | cases hf
      rcases hf2 with rfl | rfl
      rotate_left
      · split at h
        rotate_left
        · cases h
        simp only [Bool.and_eq_true] at h
        obtain ⟨rfl, hg, hm, h1, h2⟩ := a.b ok F h.1.1.1
        obtain ⟨rfl, hg2, hm2, h12, h22⟩ := a.b ok F h.1.1.2
        exact ⟨.val (s_ofF (f_lrev F.K F.calm hg hm hg2 hm2 h.1.2 ((good_e U Φ kt c1).p h.2 ok F a)) ev_lrev) (fun _ _ => rfl) (fun _ _ _ z => by cases z), fun z => by cases z⟩
      split at h
      rotate_left
      · cases h
      simp only [Bool.and_eq_true] at h
      obtain ⟨rfl, hg, hm, h1, h2⟩ := a.b ok F h.1.1.1
      obtain ⟨rfl, hg2, hm2, h12, h22⟩ := a.b ok F h.1.1.2
      exact ⟨.val (s_lenset F.K F.calm hg hm hg2 hm2 h.1.2 ((good_e U Φ kt c1).p h.2 ok F a)) (fun _ _ => rfl) (fun _ _ _ z => by cases z), fun z => by cases z⟩
    unfold chkE at h
    rw [if_neg hf] at h
    cases e with
    | Call fn args kws p =>
      split at h
      rotate_left
      · cases h
      rename_i e1
      cases e1
      simp only [Bool.and_eq_true] at h
      have hp := (good_e U Φ kt c1).p h.2 ok F a
      have hs := h.1.2
      cases hn : b1Name f with
      | none => rw [hn] at h; exact absurd h.1.1 (by simp)
      | some n =>
        rw [hn] at h
        obtain ⟨rfl, hg, hm, h1, h2⟩ := a.b ok F h.1.1
        have val : ∀ {c : C} {es : List Expr} {x : Str} {q : Pos}, PE X (.Call (.Name x q) es [] p) (tC U.M Φ c E) → SndE U Φ L c (.Call (.Name x q) es [] p) X E := fun q => .val q (fun _ _ => rfl) (fun _ _ _ z => by cases z)
        cases f <;> cases hn
        · exact ⟨val (s_b1 (c_len F.K) hg hm (by decide +kernel) h1 h2 hs hp), fun z => by cases z⟩
        · exact ⟨val (s_b1 (c_all F.calm) hg hm (by decide +kernel) h1 h2 hs hp), fun z => by cases z⟩
        · exact ⟨val (s_b1 (c_any F.calm) hg hm (by decide +kernel) h1 h2 hs hp), fun z => by cases z⟩
        · exact ⟨val (s_b1 (c_sum F.calm) hg hm (by decide +kernel) h1 h2 hs hp), fun z => by cases z⟩
        · exact ⟨val (s_b1T (c_tuple F.K) hg hm (by decide +kernel) h1 h2 hs hp), fun z => by cases z⟩
        · have ff := fun p0 => f_b1T (Φ := Φ) (p := p0) (pos := p) (c_listF (E := E) F.calm F.prog F.w F.K) hg hm (by decide +kernel) h1 h2 hs hp
          exact ⟨val (s_ofF (ff _) (isL_ok (by rfl))), fun _ => ff _⟩
        · have ff := fun p0 => f_b1 (Φ := Φ) (p := p0) (pos := p) (c_sortedF (E := E) F.K F.room) hg hm (by decide +kernel) h1 h2 hs hp
          exact ⟨val (s_ofF (ff _) (isL_ok (by rfl))), fun _ => ff _⟩
        · exact ⟨val (s_b1 (c_min F.calm) hg hm (by decide +kernel) h1 h2 hs hp), fun z => by cases z⟩
        · exact ⟨val (s_b1 (c_max F.calm) hg hm (by decide +kernel) h1 h2 hs hp), fun z => by cases z⟩
        · exact ⟨val (s_b1 c_abs hg hm (by decide +kernel) h1 h2 hs hp), fun z => by cases z⟩
        · exact ⟨val (s_b1T c_int hg hm (by decide +kernel) h1 h2 hs hp), fun z => by cases z⟩
    | _ => cases h
  | .b2 f c1 c2 => fun Γ e h L X E ok F a => by
    unfold chkE at h
    by_cases hix : isIx f = true
    · rw [if_pos hix] at h
      split at h
      rotate_left
      · cases h
      cases f <;> cases hix
      simp only [Bool.and_eq_true, decide_eq_true_eq] at h
      obtain ⟨⟨⟨⟨⟨rfl, q1⟩, q2⟩, q3⟩, q4⟩, q5⟩ := h
      exact ⟨.val (s_index F.K q1 q2 q3 (good_e U Φ kt c1 Γ _ q4 L X E ok F a).1.pe (good_e U Φ kt c2 Γ _ q5 L X E ok F a).1.pe) (fun _ _ => rfl) (fun _ _ _ z => by cases z), fun z => by cases z⟩
    rw [if_neg hix] at h
    split at h
    rotate_left
    · cases h
    simp only [Bool.and_eq_true] at h
    have h3 := (good_e U Φ kt c1 Γ _ h.1.2 L X E ok F a).1.pe
    have h4 := (good_e U Φ kt c2 Γ _ h.2 L X E ok F a).1.pe
    cases hn : b2Name f with
    | none => rw [hn] at h; exact absurd h.1.1.1.1 (by simp)
    | some n =>
      rw [hn] at h
      obtain ⟨rfl, hg, hm, h1, h2⟩ := a.b ok F h.1.1.1.1
      cases f <;> cases hn
      · exact ⟨.val (s_b2 (fun _ => rfl) (c_min2 F.calm) hg hm (by decide +kernel) h1 h2 h.1.1.1.2 h.1.1.2 h3 h4) (fun _ _ => rfl) (fun _ _ _ z => by cases z), fun z => by cases z⟩
      · exact ⟨.val (s_b2 (fun _ => rfl) (c_max2 F.calm) hg hm (by decide +kernel) h1 h2 h.1.1.1.2 h.1.1.2 h3 h4) (fun _ _ => rfl) (fun _ _ _ z => by cases z), fun z => by cases z⟩
  | .isi c1 t => fun Γ e h L X E ok F a => by
    cases e with
    | Call fn args kws p =>
      unfold chkE at h
      split at h
      rotate_left
      · cases h
      rename_i e1
      cases e1
      simp only [Bool.and_eq_true] at h
      have h3 := (good_e U Φ kt c1 Γ _ h.2 L X E ok F a).1.pe
      obtain ⟨rfl, hg, hm, h1, h2⟩ := a.b ok F h.1.1.1
      obtain ⟨rfl, hg2, hm2, h12, h22⟩ := a.b ok F h.1.1.2
      exact ⟨.val (s_isi F.K hg hm hg2 hm2 (by cases t <;> decide +kernel) h12 h22 h.1.2 h3) (fun _ _ => rfl) (fun _ _ _ z => by cases z), fun z => by cases z⟩
    | _ => cases h
theorem good_es (U : Wd) (Φ : Nat → Option Fn) (kt : Kt) : ∀ cs : Cs, GoodEs U Φ kt cs
  | .nil => fun Γ es _ h L X E ok F a => by
    cases es with
    | nil => exact ⟨s_nil, s_dnil⟩
    | cons _ _ => cases h
  | .cons c cs => fun Γ es hs h L X E ok F a => by
    cases es with
    | nil => cases h
    | cons e es =>
      unfold chkEs at h
      rw [Bool.and_eq_true] at h
      rw [List.all_cons, Bool.and_eq_true] at hs
      have q1 := (good_e U Φ kt c Γ e h.1 L X E ok F a).1.pe
      have q2 := good_es U Φ kt cs Γ es hs.2 h.2 L X E ok F a
      exact ⟨s_cons q1 q2.1 (star_of hs.1), s_dcons q1 q2.2 (star_of hs.1)⟩
theorem good_i (U : Wd) (Φ : Nat → Option Fn) (kt : Kt) : ∀ it : It, GoodI U Φ kt it
  | .e c => fun Γ tg e h L X E ok F a => by
    unfold chkI at h
    refine two_I (i_e F.prog F.w F.K (good_e U Φ kt c Γ e h L X E ok F a).1.pe)
  | .p i => fun Γ tg e h L X E ok F a => by
    unfold chkI at h
    split at h
    rotate_left
    · cases h
    obtain ⟨v0, v1, v2, v3⟩ := a.v h
    exact ⟨fun z => by (unfold noP at z; cases z), i_p F.K v0 v1 v2 v3⟩
  | .rng c => fun Γ tg e h L X E ok F a => by
    unfold chkI at h
    split at h
    rotate_left
    · cases h
    simp only [Bool.and_eq_true] at h
    obtain ⟨rfl, hg, hm, h1, h2⟩ := a.b ok F h.1.1
    refine two_I (i_rng hg hm h.1.2 (good_e U Φ kt c Γ _ h.2 L X E ok F a).1.pe)
  | .rng2 c1 c2 => fun Γ tg e h L X E ok F a => by
    unfold chkI at h
    split at h
    rotate_left
    · cases h
    simp only [Bool.and_eq_true] at h
    obtain ⟨rfl, hg, hm, h1, h2⟩ := a.b ok F h.1.1.1.1
    refine two_I (i_rng2 hg hm h.1.1.1.2 h.1.1.2 (good_e U Φ kt c1 Γ _ h.1.2 L X E ok F a).1.pe (good_e U Φ kt c2 Γ _ h.2 L X E ok F a).1.pe)
  | .enum c => fun Γ tg e h L X E ok F a => by
    unfold chkI at h
    split at h
    rotate_left
    · cases h
    simp only [Bool.and_eq_true] at h
    obtain ⟨rfl, hg, hm, h1, h2⟩ := a.b ok F h.1.1
    refine two_I (i_enum F.K hg hm h.1.2 (good_e U Φ kt c Γ _ h.2 L X E ok F a).1.pe)
  | .rev c => fun Γ tg e h L X E ok F a => by
    unfold chkI at h
    split at h
    rotate_left
    · cases h
    simp only [Bool.and_eq_true] at h
    obtain ⟨rfl, hg, hm, h1, h2⟩ := a.b ok F h.1.1
    refine two_I (i_rev F.K hg hm h.1.2 (good_e U Φ kt c Γ _ h.2 L X E ok F a).1.pe)
  | .revr c => fun Γ tg e h L X E ok F a => by cases h
  | .zip c1 c2 => fun Γ tg e h L X E ok F a => by cases h
end
end
end G
end
section
set_option Elab.async false
set_option linter.all false
set_option maxRecDepth 100000
set_option maxHeartbeats 4000000
/-! the check of statements, sound -/
namespace G
open PySem PySem.Spec PyProof.Rows L2
def noComp : Expr → Bool
  | .ListComp .. => false
  | .SetComp .. => false
  | .DictComp .. => false
  | _ => true
def noDC : Expr → Bool
  | .DictComp .. => false
  | _ => true
theorem swaps_not {e : Expr} (h : noComp e = true) (t : Option Expr) (l : Nat) (env : PySem.Env) : swapsWith e t l env = pure false := by
  cases e <;> first | rfl | cases h
/-- how the value of a comprehension comes to its name -/
def swapOk (Γ : Ga) (x : Str) (px : Pos) : Expr → Bool
  | .ListComp _ _ scope pos => (match Γ.sc.names.lookup x with
    | some .local => px.line == pos.line && !(scope.names.any fun (n, k) => n == x && (k == .local || k == .cell))
    | some .cell => true
    | _ => false)
  | .DictComp _ _ _ scope pos => (match Γ.sc.names.lookup x with
    | some .local => px.line == pos.line && !(scope.names.any fun (n, k) => n == x && (k == .local || k == .cell))
    | some .cell => true
    | _ => false)
  | .SetComp .. => false
  | _ => true
theorem swaps_cell {elt : Expr} {gs : List Comprehension} {scope : Scope} {pos : Pos} {x : Str} {px : Pos} {l : Nat} {env : PySem.Env} (h : env.scope.names.lookup x = some .cell) : swapsWith (.ListComp elt gs scope pos) (some (.Name x px)) l env = pure false := by
  unfold swapsWith
  simp only [PySem.Env.kindOf, h]
  have : (some NameKind.cell == some NameKind.local) = false := by decide
  rw [this, Bool.and_false, Bool.false_and, Bool.false_and]
def isLoc (Γ : Ga) : Expr → Bool
  | .Name x _ => (match Γ.sc.names.lookup x with | some .local => true | _ => false)
  | _ => false
/-- the tuple is made -/
def parNone (Γ : Ga) (ts es : List Expr) : Bool := !(ts.all (isLoc Γ)) || es.all (foldedForSure 8)
def swapNames (line : Nat) (env : PySem.Env) : Expr → Option Str
  | .Name id pos => if env.kindOf id == some .local && pos.line == line then some id else none
  | _ => none
theorem swapped_eq {ts es : List Expr} {kt k2 : Nat} {pt p2 : Pos} {env : PySem.Env} : swappedStores [.Tuple ts kt pt] (.Tuple es k2 p2) env =
    (if !(ts.length == 2 || ts.length == 3) || es.length != ts.length || env.blockKind != .function then pure none else
     if es.any (fun e => !noStar e) then pure none else
     if (ts.filterMap (swapNames ((ts.head?.map (·.pos.line)).getD 0) env)).length != ts.length || (ts.filterMap (swapNames ((ts.head?.map (·.pos.line)).getD 0) env)).eraseDups.length != (ts.filterMap (swapNames ((ts.head?.map (·.pos.line)).getD 0) env)).length then pure none else
     if es.all (foldedForSure 8) then pure none else
     if es.all (constantsAlone 8) then unsupported "assign.tuple-of-constant-expressions:order-of-the-stores" else
     pure (some (ts.filterMap (swapNames ((ts.head?.map (·.pos.line)).getD 0) env)))) := by
  have e1 : ∀ f : Expr → Bool, (∀ e, f e = !noStar e) → es.any f = es.any (fun e => !noStar e) := fun f h => by
    congr 1
    funext e
    exact h e
  have e2 : ∀ f : Expr → Option Str, (∀ e, f e = swapNames ((ts.head?.map (·.pos.line)).getD 0) env e) → ts.filterMap f = ts.filterMap (swapNames ((ts.head?.map (·.pos.line)).getD 0) env) := fun f h => by
    congr 1
    funext e
    exact h e
  unfold swappedStores
  simp only []
  rw [e1, e2]
  · rfl
  · intro e; cases e <;> rfl
  · intro e; cases e <;> rfl
theorem filter_short {ts : List Expr} {line : Nat} {env : PySem.Env} {Γ : Ga} (hs : env.scope = Γ.sc) (h : ts.all (isLoc Γ) = false) : (ts.filterMap (swapNames line env)).length ≠ ts.length := by
  intro z
  rw [List.length_filterMap_eq_countP, List.countP_eq_length] at z
  rw [← Bool.not_eq_true, List.all_eq_true] at h
  refine h fun e he => ?_
  have := z e he
  cases e with
  | Name x p =>
    simp only [swapNames] at this
    simp only [isLoc]
    cases hl : Γ.sc.names.lookup x with
    | none => rw [PySem.Env.kindOf, hs, hl] at this; simp at this
    | some k =>
      rw [PySem.Env.kindOf, hs, hl] at this
      cases k <;> first | rfl | (simp at this; done)
  | _ => simp [swapNames] at this
theorem par_none {Γ : Ga} {ts es : List Expr} {kt k2 : Nat} {pt p2 : Pos} {env : PySem.Env} (hs : env.scope = Γ.sc) (h : parNone Γ ts es = true) : swappedStores [.Tuple ts kt pt] (.Tuple es k2 p2) env = pure none := by
  rw [swapped_eq]
  unfold parNone at h
  rw [Bool.or_eq_true, Bool.not_eq_true'] at h
  split
  · rfl
  · split
    · rfl
    · split
      · rfl
      · rename_i h3
        rcases h with h | h
        · exact absurd (by simp [filter_short (line := (ts.head?.map (·.pos.line)).getD 0) hs h]) h3
        · rw [if_pos h]
/-- two local names, stored from the right -/
def par2S (Γ : Ga) : List Expr → List Expr → Bool
  | [.Name x px, .Name y py], [a, b] => isLoc Γ (.Name x px) && isLoc Γ (.Name y py) && decide (x ≠ y) && py.line == px.line && noStar a && noStar b && !([a, b].all (foldedForSure 8)) && !([a, b].all (constantsAlone 8))
  | _, _ => false
theorem isLoc_eq {Γ : Ga} {x : Str} {p : Pos} (h : isLoc Γ (.Name x p) = true) : Γ.sc.names.lookup x = some .local := by
  unfold isLoc at h
  simp only at h
  split at h
  · assumption
  · cases h
theorem par_two {Γ : Ga} {x y : Str} {px py : Pos} {a b : Expr} {kt k2 : Nat} {pt p2 : Pos} {env : PySem.Env} (hk : env.scope.kind = .function) (hs : env.scope = Γ.sc) (h : par2S Γ [.Name x px, .Name y py] [a, b] = true) :
    swappedStores [.Tuple [.Name x px, .Name y py] kt pt] (.Tuple [a, b] k2 p2) env = pure (some [x, y]) := by
  unfold par2S at h
  simp only [Bool.and_eq_true, decide_eq_true_eq, Bool.not_eq_true'] at h
  obtain ⟨⟨⟨⟨⟨⟨⟨h1, h2⟩, h3⟩, h4⟩, h5⟩, h6⟩, h7⟩, h8⟩ := h
  have l1 := isLoc_eq h1
  have l2 := isLoc_eq h2
  rw [swapped_eq]
  have hb : env.blockKind = .function := by
    unfold PySem.Env.blockKind
    rw [hk]; rfl
  have hf : [Expr.Name x px, .Name y py].filterMap (swapNames (([Expr.Name x px, .Name y py].head?.map (·.pos.line)).getD 0) env) = [x, y] := by
    show [Expr.Name x px, .Name y py].filterMap (swapNames px.line env) = [x, y]
    simp [swapNames, PySem.Env.kindOf, hs, l1, l2, h4]
  have hd : ([x, y] : List Str).eraseDups.length = 2 := by
    have hxy : (y == x) = false := by simpa using Ne.symm h3
    simp [List.eraseDups_cons, hxy]
  rw [hf, hd]
  rw [if_neg (by rw [hb]; simp), if_neg (by simp [h5, h6]), if_neg (by simp), if_neg (by rw [h7]; simp), if_neg (by rw [h8]; simp)]
def chkMs (kt : Kt) (Γ : Ga) : List Bool → Cs → List Expr → Bool
  | [], .nil, [] => true
  | b :: bs, .cons c cs, e :: es => noStar e && chkE kt c Γ e && (!b || isL c) && chkMs kt Γ bs cs es
  | _, _, _ => false
mutual
def chkS (kt : Kt) : S → Ga → Stmt → Bool
  | .no, _, _ => true
  | .asg i c, Γ, st => (match st with
    | .Assign [.Name x px] e _ => nameS Γ i x && chkE kt c Γ e && swapOk Γ x px e
    | _ => false)
  | .asgo i c, Γ, st => (match st with
    | .Assign [.Name x px] e _ => nameS Γ i x && chkE kt c Γ e && swapOk Γ x px e && isL c
    | _ => false)
  | .unp is c, Γ, st => (match st with
    | .Assign [.Tuple ts _ _] e _ => nmsS Γ is ts && chkE kt c Γ e && (match e with | .Tuple .. => false | _ => true)
    | _ => false)
  | .par is cs, Γ, st => (match st with
    | .Assign [.Tuple ts _ _] (.Tuple es _ _) _ => nmsS Γ (is.map (·.1)) ts && chkMs kt Γ (is.map (·.2)) cs es && decide (is.length ≤ 100) && (parNone Γ ts es || par2S Γ ts es)
    | _ => false)
  | .app i c, Γ, st => (match st with
    | .Expr (.Call (.Attribute (.Name x _) m apos) [e] [] cpos) _ => decide (m = "append") && nameV Γ i x && noStar e && chkE kt c Γ e && (apos.endLine == cpos.line)
    | _ => false)
  | .seti i ci c, Γ, st => (match st with
    | .Assign [.Subscript (.Name x _) ei _] e _ => nameV Γ i x && chkE kt ci Γ ei && chkE kt c Γ e && noSlice ei
    | _ => false)
  | .setdice i k c, Γ, st => (match st with
    | .Assign [.Subscript (.Name x _) (.Constant (.int k') _ _) _] e _ => nameV Γ i x && chkE kt c Γ e && decide (k' = (k : Int)) && decide (k ≤ 1)
    | _ => false)
  | .newd i, Γ, st => (match st with
    | .Assign [.Name x _] (.Dict [] [] _) _ => nameS Γ i x
    | _ => false)
  | .setd i ci c, Γ, st => (match st with
    | .Assign [.Subscript (.Name x _) ei _] e _ => nameV Γ i x && chkE kt ci Γ ei && chkE kt c Γ e && noSlice ei
    | _ => false)
  | .ret c, Γ, st => (match st with
    | .Return (some e) _ => chkE kt c Γ e
    | _ => false)
  | .retn, _, st => (match st with
    | .Return none _ => true
    | _ => false)
  | .ife t a b, Γ, st => (match st with
    | .If e xs ys _ => chkE kt t Γ e && tOk e && chkSs kt a Γ xs && chkSs kt b Γ ys
    | _ => false)
  | .for_ tup is it body, Γ, st => (match st with
    | .For tg iter bd [] _ => (tgS Γ tup is tg && noP it) && chkI kt it Γ tg iter && chkSs kt body Γ bd && foldS iter
    | _ => false)
  | .while_ t body, Γ, st => (match st with
    | .While e bd [] _ => chkE kt t Γ e && tOk e && chkSs kt body Γ bd
    | _ => false)
  | .raise k, Γ, st => (match st with
    | .Raise (some (.Call (.Name x _) [.Constant (.str _) _ _] [] _)) none _ => nameG Γ x && decide (kt.exs.lookup x = some k)
    | _ => false)
  | .ex c, Γ, st => (match st with
    | .Expr e _ => noComp e && chkE kt c Γ e
    | _ => false)
  | .pass, _, st => (match st with
    | .Pass _ => true
    | .Expr (.Constant (.str _) _ _) _ => true
    | _ => false)
  | .frz _, _, _ => false
def chkSs (kt : Kt) : Ss → Ga → List Stmt → Bool
  | .nil, _, sts => (match sts with
    | [] => true
    | _ => false)
  | .cons s ss, Γ, sts => (match s with
    | .frz _ => chkSs kt ss Γ sts
    | _ => (match sts with
      | st :: sts => chkS kt s Γ st && chkSs kt ss Γ sts
      | _ => false))
end
section
variable {U : Wd} {Φ : Nat → Option Fn} {kt : Kt} {L : Nat} {X : Cx} {E : XK} {Γ : Ga}
theorem ms_ok (ok : KtOk U Φ L kt) (F : Fit U L E X) (a : At U L Γ X) : ∀ (bs : List Bool) (cs : Cs) (es : List Expr), chkMs kt Γ bs cs es = true → PA X es (tMs U.M Φ bs cs E)
  | [], .nil, [], _ => m_nil
  | b :: bs, .cons c cs, e :: es, h => by
    unfold chkMs at h
    simp only [Bool.and_eq_true] at h
    have q := good_e U Φ kt c Γ e h.1.1.2 L X E ok F a
    have t := ms_ok ok F a bs cs es h.2
    cases b with
    | false => exact m_cons0 q.1.pe t h.1.1.1
    | true =>
      have hl : isL c = true := by have := h.1.2; simpa using this
      exact m_cons1 hl (q.2 hl) t h.1.1.1
  | [], .nil, _ :: _, h => by cases h
  | [], .cons _ _, _, h => by cases h
  | _ :: _, .nil, _, h => by cases h
  | _ :: _, .cons _ _, [], h => by cases h
/-- a comprehension's value to a local name -/
theorem lc_to_local (ok : KtOk U Φ L kt) (F : Fit U L E X) (a : At U L Γ X) {i : Nat} {x : Str} {px spos : Pos} {e : Expr} {c : C} (hx : X.N[i]? = some x) (hl : Γ.sc.names.lookup x = some .local) (hc : chkE kt c Γ e = true) (he : noComp e = false) (hd : noDC e = true) (hs : swapOk Γ x px e = true) :
    PS X (.Assign [.Name x px] e spos) (tAsg (tF U.M Φ c E) (gName i)) ∧ (c = .no ∨ isL c = true) := by
  cases e with
  | ListComp elt gs scope pos =>
    have hs2 : (px.line == pos.line && !(scope.names.any fun (n, k) => n == x && (k == .local || k == .cell))) = true := by
      unfold swapOk at hs
      rw [hl] at hs
      exact hs
    rw [Bool.and_eq_true, Bool.not_eq_true'] at hs2
    cases c with
    | lc is tup it cond ce =>
      unfold chkE at hc
      split at hc
      rotate_left
      · cases hc
      rename_i x' tg iter ifs scope' p' e1
      cases e1
      simp only [Bool.and_eq_true] at hc
      have hk : scope.kind = .function := by
        have := hc.1.1.1.1.1
        unfold blkC at this
        simp only [Bool.and_eq_true] at this
        have := this.1.1.1
        split at this
        · rename_i e; exact e
        · cases this
      have ok2 : BlkOk X.N X.env.scope scope (ownOfN Γ is) := by
        rw [a.N, a.sc]
        exact blkOk_by hc.1.1.1.1.1
      have fit : ∀ (s : Shared) (H : Hp) (C : Addr) (cl : List (Str × Addr)) (fp : List Addr), Fit U L noE (X.blk s H scope (compEnvC scope cl C X.env) fp) := fun s H C cl fp => F.blk hk
      have ht : ∀ (s : Shared) (H : Hp) (C : Addr) (cl : List (Str × Addr)) (fp : List Addr), PTs (X.blk s H scope (compEnvC scope cl C X.env) fp) ifs (tT U.M Φ cond noE) := fun s H C cl fp => by
        have hc := hc.1.1.2
        cases ifs with
        | nil => exact pts_nil.imp fun σ H Q q => tT_yes hc q
        | cons c1 r =>
          cases r with
          | nil =>
            rw [Bool.and_eq_true] at hc
            exact pts_one ((good_e U Φ kt cond _ c1 hc.1 L _ noE ok (fit s H C cl fp) a.blkA).1.pt hc.2)
          | cons _ _ => cases hc
      refine ⟨ps_lcF (Φ := Φ) F.calm F.nd (own_map Γ is) hx (by rw [a.sc]; exact hl) (sw_true F.kind (by rw [a.sc]; exact hl) hs2.1 hs2.2) (good_i U Φ kt it Γ tg iter hc.1.1.1.2 L X E ok F a).2 ok2 (fun s H C cl fp => a.blkA.tg (fit s H C cl fp) hc.1.1.1.1.2) ht
        (fun s H C cl fp => (good_e U Φ kt ce _ _ hc.1.2 L _ noE ok (fit s H C cl fp) a.blkA).1.pe) (fold_ok hc.2 _), .inr rfl⟩
    | no => exact ⟨⟨fun pins s σ H D I ⟨g, H0, δ, st, w, so, h⟩ => by unfold evC at h; exact False.elim h⟩, .inl rfl⟩
    | b1 f c =>
      unfold chkE at hc
      split at hc <;> cases hc
    | b2 f c d =>
      unfold chkE at hc
      split at hc <;> cases hc
    | _ => cases hc
  | SetComp _ _ _ _ => cases hs
  | DictComp _ _ _ _ _ => cases hd
  | _ => cases he
theorem dc_to_local (ok : KtOk U Φ L kt) (F : Fit U L E X) (a : At U L Γ X) {i : Nat} {x : Str} {px spos : Pos} {kx vx : Expr} {gs : List Comprehension} {scope : Scope} {pos : Pos} {c : C} (hx : X.N[i]? = some x) (hl : Γ.sc.names.lookup x = some .local) (hc : chkE kt c Γ (.DictComp kx vx gs scope pos) = true) (hs : swapOk Γ x px (.DictComp kx vx gs scope pos) = true) :
    PS X (.Assign [.Name x px] (.DictComp kx vx gs scope pos) spos) (tAsg (tC U.M Φ c E) (gName i)) ∧ (isL c = true → False) := by
  have hs2 : (px.line == pos.line && !(scope.names.any fun (n, k) => n == x && (k == .local || k == .cell))) = true := by
    unfold swapOk at hs
    rw [hl] at hs
    exact hs
  rw [Bool.and_eq_true, Bool.not_eq_true'] at hs2
  cases c with
  | dc is it key val =>
    unfold chkE at hc
    split at hc
    rotate_left
    · cases hc
    rename_i kx' vx' tg iter scope' p' e1
    cases e1
    simp only [Bool.and_eq_true] at hc
    have hk : scope.kind = .function := by
      have := hc.1.1.1.1.1
      unfold blkC at this
      simp only [Bool.and_eq_true] at this
      have := this.1.1.1
      split at this
      · rename_i e; exact e
      · cases this
    have ok2 : BlkOk X.N X.env.scope scope (ownOfN Γ is) := by
      rw [a.N, a.sc]
      exact blkOk_by hc.1.1.1.1.1
    have fit : ∀ (s : Shared) (H : Hp) (C : Addr) (cl : List (Str × Addr)) (fp : List Addr), Fit U L noE (X.blk s H scope (compEnvC scope cl C X.env) fp) := fun s H C cl fp => F.blk hk
    exact ⟨ps_dcF (Φ := Φ) F.calm F.nd (own_map Γ is) hx (by rw [a.sc]; exact hl) (sw_trueD F.kind (by rw [a.sc]; exact hl) hs2.1 hs2.2) (good_i U Φ kt it Γ tg iter hc.1.1.1.2 L X E ok F a).2 ok2 (fun s H C cl fp => a.blkA.tg (fit s H C cl fp) hc.1.1.1.1.2)
      (fun s H C cl fp => (good_e U Φ kt key _ kx hc.1.1.2 L _ noE ok (fit s H C cl fp) a.blkA).1.pe) (fun s H C cl fp => (good_e U Φ kt val _ vx hc.1.2 L _ noE ok (fit s H C cl fp) a.blkA).1.pe) (fold_ok hc.2 _), fun z => by cases z⟩
  | no => exact ⟨⟨fun pins s σ H D I ⟨g, H0, δ, st, w, so, h⟩ => by unfold evC at h; exact False.elim h⟩, fun z => by cases z⟩
  | b1 f c =>
    unfold chkE at hc
    split at hc <;> cases hc
  | b2 f c d =>
    unfold chkE at hc
    split at hc <;> cases hc
  | _ => cases hc
theorem asg_ok (ok : KtOk U Φ L kt) (F : Fit U L E X) (a : At U L Γ X) {i : Nat} {x : Str} {px spos : Pos} {e : Expr} {c : C} (hx : nameS Γ i x = true) (hc : chkE kt c Γ e = true) (hs : swapOk Γ x px e = true) :
    PS X (.Assign [.Name x px] e spos) (tAsg (tC U.M Φ c E) (gName i)) ∧ (isL c = true → PS X (.Assign [.Name x px] e spos) (tAsg (tF U.M Φ c E) (gName i))) := by
  have sn := a.s hx
  have q := good_e U Φ kt c Γ e hc L X E ok F a
  by_cases he : noComp e = true
  · have sw := swaps_not he (some (.Name x px)) spos.line X.env
    exact ⟨ps_set F.nd sn.at_ sn.loc q.1.pe sw sn.fn, fun hl => ps_set F.nd sn.at_ sn.loc (q.2 hl) sw sn.fn⟩
  · have he : noComp e = false := by simpa using he
    cases hlk : Γ.sc.names.lookup x with
    | none =>
      rcases sn.loc with z | z
      · rw [a.sc, hlk] at z; cases z
      · rw [a.sc, hlk] at z; cases z
    | some k =>
      by_cases hk : k = .local
      · subst hk
        by_cases hd : noDC e = true
        rotate_left
        · cases e with
          | DictComp kx vx gs scope pos =>
            obtain ⟨h1, h2⟩ := dc_to_local (spos := spos) ok F a sn.at_ hlk hc hs
            exact ⟨h1, fun hl => (h2 hl).elim⟩
          | _ => exact absurd rfl hd
        obtain ⟨h1, h2⟩ := lc_to_local (spos := spos) ok F a sn.at_ hlk hc he hd hs
        refine ⟨?_, fun _ => h1⟩
        rcases h2 with rfl | h2
        · exact ⟨fun pins s σ H D I ⟨g, H0, δ, st, w, so, h⟩ => by unfold evC at h; exact False.elim h⟩
        · exact st_ofF (isL_ok h2) h1
      · have hk2 : k = .cell := by
          rcases sn.loc with z | z
          · rw [a.sc, hlk] at z; exact absurd (Option.some.inj z) hk
          · rw [a.sc, hlk] at z; exact Option.some.inj z
        subst hk2
        cases e with
        | ListComp elt gs scope pos =>
          have sw : swapsWith (.ListComp elt gs scope pos) (some (.Name x px)) spos.line X.env = pure false := swaps_cell (by rw [a.sc]; exact hlk)
          exact ⟨ps_set F.nd sn.at_ sn.loc q.1.pe sw sn.fn, fun hl => ps_set F.nd sn.at_ sn.loc (q.2 hl) sw sn.fn⟩
        | SetComp _ _ _ _ => cases hs
        | DictComp kx vx gs scope pos =>
          have sw : swapsWith (.DictComp kx vx gs scope pos) (some (.Name x px)) spos.line X.env = pure false := swaps_cellD (by rw [a.sc]; exact hlk)
          exact ⟨ps_set F.nd sn.at_ sn.loc q.1.pe sw sn.fn, fun hl => ps_set F.nd sn.at_ sn.loc (q.2 hl) sw sn.fn⟩
        | _ => cases he
def GoodS (U : Wd) (Φ : Nat → Option Fn) (kt : Kt) (s : S) : Prop := ∀ (Γ : Ga) (st : Stmt), chkS kt s Γ st = true → ∀ (L : Nat) (X : Cx) (E : XK), KtOk U Φ L kt → FitS U L E X → At U L Γ X → PS X st (tSt U.M (evs U.M Φ s) E)
def GoodSs (U : Wd) (Φ : Nat → Option Fn) (kt : Kt) (s : Ss) : Prop := ∀ (Γ : Ga) (st : List Stmt), chkSs kt s Γ st = true → ∀ (L : Nat) (X : Cx) (E : XK), KtOk U Φ L kt → FitS U L E X → At U L Γ X → PSs X st (tSt U.M (evss U.M Φ s) E)
mutual
theorem good_s (U : Wd) (Φ : Nat → Option Fn) (kt : Kt) : ∀ s : S, GoodS U Φ kt s
  | .no => fun Γ st h L X E ok F a => st_no
  | .asg i c => fun Γ st h L X E ok F a => by
    unfold chkS at h
    split at h
    rotate_left
    · cases h
    simp only [Bool.and_eq_true] at h
    exact st_asg (asg_ok ok F.toFit a h.1.1 h.1.2 h.2).1
  | .asgo i c => fun Γ st h L X E ok F a => by
    unfold chkS at h
    split at h
    rotate_left
    · cases h
    simp only [Bool.and_eq_true] at h
    exact st_asgo ((asg_ok ok F.toFit a h.1.1.1 h.1.1.2 h.1.2).2 h.2)
  | .unp is c => fun Γ st h L X E ok F a => by
    unfold chkS at h
    split at h
    rotate_left
    · cases h
    rename_i ts k p e p2
    simp only [Bool.and_eq_true] at h
    have hsw : swapsWithSole [.Tuple ts k p] e p2.line X.env = pure false := by cases e <;> rfl
    have hw : swappedStores [.Tuple ts k p] e X.env = pure none := by
      have := h.2
      cases e <;> first | rfl | cases this
    exact st_unp (ps_asg (good_e U Φ kt c Γ e h.1.2 L X E ok F.toFit a).1.pe (pg_all F.K F.calm F.nd (a.nms h.1.1)) hsw hw rfl)
  | .par is cs => fun Γ st h L X E ok F a => by
    unfold chkS at h
    split at h
    rotate_left
    · cases h
    rename_i ts k p es k2 p3 p2
    simp only [Bool.and_eq_true, decide_eq_true_eq, Bool.or_eq_true] at h
    have hm := ms_ok ok F.toFit a _ _ _ h.1.1.2
    have hn := a.nms h.1.1.1
    rcases h.2 with hp | hp
    · exact st_par F.calm F.nd hn (Nat.le_trans h.1.2 (by unfold lim; omega)) hm (par_none a.sc hp)
    · have hp0 := hp
      unfold par2S at hp
      split at hp
      rotate_left
      · cases hp
      rename_i x px y py e1 e2
      simp only [Bool.and_eq_true, decide_eq_true_eq] at hp
      cases is with
      | nil => cases hn
      | cons i1 is =>
        cases is with
        | nil => cases hn with | cons h1 h2 => cases h2
        | cons i2 is =>
          cases is with
          | cons i3 is => cases hn with | cons h1 h2 => cases h2 with | cons h3 h4 => cases h4
          | nil =>
            cases hn with
            | cons h1 h2 =>
              cases h2 with
              | cons h3 h4 =>
                obtain ⟨i1, b1⟩ := i1
                obtain ⟨i2, b2⟩ := i2
                refine st_par2 F.calm F.nd h1.at_ h3.at_ (fun z => ?_) (by rw [a.sc]; exact isLoc_eq hp.1.1.1.1.1.1.1) (by rw [a.sc]; exact isLoc_eq hp.1.1.1.1.1.1.2) hm (par_two F.kind a.sc hp0)
                have e1 := h1.at_
                have e3 := h3.at_
                have z : i1 = i2 := z
                subst z
                rw [e1] at e3
                exact hp.1.1.1.1.1.2 (Option.some.inj e3)
  | .app i c => fun Γ st h L X E ok F a => by
    unfold chkS at h
    split at h
    rotate_left
    · cases h
    simp only [Bool.and_eq_true, decide_eq_true_eq] at h
    obtain ⟨⟨⟨⟨rfl, h1⟩, h2⟩, h3⟩, h4⟩ := h
    obtain ⟨q1, q2, q3, q4⟩ := a.v h1
    exact st_app F.K q1 q2 q3 q4 h4 h2 (good_e U Φ kt c Γ _ h3 L X E ok F.toFit a).1.pe
  | .seti i ci c => fun Γ st h L X E ok F a => by
    unfold chkS at h
    split at h
    rotate_left
    · cases h
    simp only [Bool.and_eq_true] at h
    obtain ⟨q1, q2, q3, q4⟩ := a.v h.1.1.1
    exact st_seti h.2 q1 q2 q3 q4 (good_e U Φ kt c Γ _ h.1.2 L X E ok F.toFit a).1.pe (good_e U Φ kt ci Γ _ h.1.1.2 L X E ok F.toFit a).1.pe
  | .setd i ci c => fun Γ st h L X E ok F a => by
    unfold chkS at h
    split at h
    rotate_left
    · cases h
    simp only [Bool.and_eq_true] at h
    obtain ⟨q1, q2, q3, q4⟩ := a.v h.1.1.1
    exact st_setd (by have := F.room.units; omega) F.prog F.w F.K h.2 q1 q2 q3 q4 (good_e U Φ kt c Γ _ h.1.2 L X E ok F.toFit a).1.pe (good_e U Φ kt ci Γ _ h.1.1.2 L X E ok F.toFit a).1.pe
  | .setdice i k c => fun Γ st h L X E ok F a => by
    unfold chkS at h
    split at h
    rotate_left
    · cases h
    simp only [Bool.and_eq_true, decide_eq_true_eq] at h
    obtain ⟨⟨⟨h1, h2⟩, rfl⟩, h4⟩ := h
    obtain ⟨q1, q2, q3, q4⟩ := a.v h1
    exact st_dice (by omega) q1 q2 q3 q4 (good_e U Φ kt c Γ _ h2 L X E ok F.toFit a).1.pe
  | .newd i => fun Γ st h L X E ok F a => by
    unfold chkS at h
    split at h
    rotate_left
    · cases h
    have sn := a.s h
    exact st_newd F.prog F.w (ps_set F.nd sn.at_ sn.loc pe_dnewX (swaps_not rfl _ _ _) sn.fn)
  | .ret c => fun Γ st h L X E ok F a => by
    unfold chkS at h
    split at h
    rotate_left
    · cases h
    exact st_ret (good_e U Φ kt c Γ _ h L X E ok F.toFit a).1.pe
  | .retn => fun Γ st h L X E ok F a => by
    unfold chkS at h
    split at h
    rotate_left
    · cases h
    exact st_retn
  | .ife t b1 b2 => fun Γ st h L X E ok F a => by
    unfold chkS at h
    split at h
    rotate_left
    · cases h
    simp only [Bool.and_eq_true] at h
    exact st_if ((good_e U Φ kt t Γ _ h.1.1.1 L X E ok F.toFit a).1.pt h.1.1.2) (good_ss U Φ kt b1 Γ _ h.1.2 L X E ok F a) (good_ss U Φ kt b2 Γ _ h.2 L X E ok F a)
  | .for_ tup is it body => fun Γ st h L X E ok F a => by
    unfold chkS at h
    split at h
    rotate_left
    · cases h
    simp only [Bool.and_eq_true] at h
    exact st_for F.own F.calm ((good_i U Φ kt it Γ _ _ h.1.1.2 L X E ok F.toFit a).1 h.1.1.1.2) (a.tg F.toFit h.1.1.1.1) (good_ss U Φ kt body Γ _ h.1.2 L X E ok F a) (fold_ok h.2 _)
  | .while_ t body => fun Γ st h L X E ok F a => by
    unfold chkS at h
    split at h
    rotate_left
    · cases h
    simp only [Bool.and_eq_true] at h
    exact st_while F.own ((good_e U Φ kt t Γ _ h.1.1 L X E ok F.toFit a).1.pt h.1.2) (good_ss U Φ kt body Γ _ h.2 L X E ok F a)
  | .raise k => fun Γ st h L X E ok F a => by
    unfold chkS at h
    split at h
    rotate_left
    · cases h
    rw [Bool.and_eq_true, decide_eq_true_eq] at h
    exact st_raise F (ok.exs _ k h.2) (a.g h.1).1
  | .ex c => fun Γ st h L X E ok F a => by
    unfold chkS at h
    split at h
    rotate_left
    · cases h
    rw [Bool.and_eq_true] at h
    exact st_ex (good_e U Φ kt c Γ _ h.2 L X E ok F.toFit a).1.pe (swaps_not h.1 _ _ _)
  | .pass => fun Γ st h L X E ok F a => by
    unfold chkS at h
    split at h
    · exact st_pass
    · exact st_doc
    · cases h
  | .frz _ => fun Γ st h L X E ok F a => by unfold chkS at h; cases h
theorem good_ss (U : Wd) (Φ : Nat → Option Fn) (kt : Kt) : ∀ s : Ss, GoodSs U Φ kt s
  | .nil => fun Γ st h L X E ok F a => by
    unfold chkSs at h
    split at h
    · exact st_nil
    · cases h
  | .cons s ss => fun Γ st h L X E ok F a => by
    unfold chkSs at h
    split at h
    · exact st_frz (good_ss U Φ kt ss Γ st h L X E ok F a)
    · split at h
      · rw [Bool.and_eq_true] at h
        exact st_cons (good_s U Φ kt s Γ _ h.1 L X E ok F a) (good_ss U Φ kt ss Γ _ h.2 L X E ok F a)
      · cases h
end
end
end G
end
section
set_option Elab.async false
set_option linter.all false
set_option maxRecDepth 100000
set_option maxHeartbeats 1000000
/-! the defs of a law, one behind another -/
namespace G
open PySem PySem.Spec PyProof.Rows L2
def chkD (kt : Kt) (d : Df) : Bool := scopeC d.N d.ps (defScope d.st) && decide (d.N.length = d.code.names) && decide (d.code.pars ≤ d.N.length) && chkSs kt d.code.body ⟨d.N, defScope d.st, none, d.maker⟩ (defBody d.st)
noncomputable def iterF (gl : Nat → D) (acc : List Fn) (d : Df) : Nat → Fn
  | 0 => fun _ _ => .bad
  | k + 1 => evF gl (PP (acc ++ [iterF gl acc d k])) d.code
noncomputable def mkFn (gl : Nat → D) (acc : List Fn) (d : Df) : Fn := if d.self = true then iterF gl acc d 6 else evF gl (PP acc) d.code
noncomputable def fnsOf (gl : Nat → D) : List Df → List Fn → List Fn
  | [], acc => acc
  | d :: ds, acc => fnsOf gl ds (acc ++ [mkFn gl acc d])
def nxt (kt : Kt) (d : Df) (n : Nat) : Kt := { kt with fns := kt.fns ++ [(d.x, n)] }
def ktAll (kt : Kt) : Nat → List Df → Kt
  | _, [] => kt
  | n, d :: ds => ktAll (nxt kt d n) (n + 1) ds
def chkAll (kt : Kt) : Nat → List Df → Bool
  | _, [] => true
  | n, d :: ds => chkD (if d.self = true then nxt kt d n else kt) d && chkAll (nxt kt d n) (n + 1) ds
def up1 (d : Df) : Nat := if d.maker = true then 3 else 1
def lev (d : Df) : Nat := if d.self = true then 21 else up1 d
def levs : List Df → Nat
  | [] => 0
  | d :: ds => lev d + levs ds
section
variable {U : Wd} {kt : Kt} {L : Nat} {d : Df} {acc : List Fn}
theorem lookup_snoc {x y : Str} {n : Nat} : ∀ {l : List (Str × Nat)} {i : Nat}, (l ++ [(y, n)]).lookup x = some i → l.lookup x = some i ∨ (x = y ∧ i = n)
  | [], i, h => by
    rw [List.nil_append, List.lookup_cons] at h
    split at h
    · rename_i e
      cases h
      exact .inr ⟨eq_of_beq e, rfl⟩
    · cases h
  | (z, m) :: l, i, h => by
    rw [List.cons_append, List.lookup_cons] at h
    rw [List.lookup_cons]
    split at h
    · exact .inl h
    · exact lookup_snoc h
theorem KtOk.add {φ : Fn} {k n : Nat} (ok : KtOk U (PP acc) L kt) (fo : FOk U k d.x n φ) {L' : Nat} (hk : k ≤ L') (hL : L ≤ L') : KtOk U (PP (acc ++ [φ])) L' (nxt kt d acc.length) where
  fns := fun x i h => by
    rcases lookup_snoc h with h | ⟨rfl, rfl⟩
    · obtain ⟨k', n', φ', h1, h2, h3⟩ := ok.fns x i h
      refine ⟨k', n', φ', h1, Nat.le_trans h2 hL, ?_⟩
      show (acc ++ [φ])[i]? = some φ'
      have h3 : acc[i]? = some φ' := h3
      rw [List.getElem?_append_left (List.getElem?_eq_some_iff.mp h3).1]
      exact h3
    · exact ⟨k, n, φ, fo, hk, by show (acc ++ [φ])[acc.length]? = some φ; simp⟩
  gls := ok.gls
  exs := ok.exs
  fre := ok.fre
  tld := ok.tld
theorem FOk.mono {j k : Nat} {x : Str} {n : Nat} {φ : Fn} (fo : FOk U j x n φ) (h : j ≤ k) : FOk U k x n φ := by
  obtain ⟨⟨f, fd, ps, h1, h2⟩, ar⟩ := fo
  exact ⟨⟨f, fd, ps, h1.mono h, h2⟩, ar⟩
theorem up1_le (d : Df) : up1 d ≤ 3 := by unfold up1; split <;> omega
theorem fok_one (D : DfOk U d) {Φ : Nat → Option Fn} (ok : KtOk U Φ L kt) (h : chkD kt d = true) : FOk U (L + up1 d) d.x d.code.pars (evF U.M.gl Φ d.code) := by
  obtain ⟨f, fd, h1, h2, h3, h4⟩ := D.ex
  unfold chkD at h
  simp only [Bool.and_eq_true, decide_eq_true_eq] at h
  have hps : d.ps.length = d.code.pars := by unfold Df.ps; rw [List.length_take]; omega
  unfold up1
  by_cases hm : d.maker = true
  · rw [if_pos hm]
    refine fok_of (k := L + 2) h1 (scope_ok h.1.1.1) h2 h3 hps h.1.1.2 (by rw [hps]; exact h.1.2) fun X E F hN hs hf hq ⟨c, e1, e2⟩ => ?_
    obtain ⟨P, q1, q2, q3⟩ := h4 hm c e2
    exact good_ss U Φ kt d.code.body _ _ h.2 L X E ok ⟨⟨F.prog, F.w, F.K, F.mg, F.base, F.room.mono (by omega), F.calm, F.nd, F.passes, F.kind⟩, F.own, F.takes⟩ ⟨hN, hs, hf, fun _ => ⟨⟨c, P, e1, by rw [F.base, F.mg]; exact q1, by rw [hq]; exact q2, by rw [hq]; exact q3⟩, F.room⟩⟩
  · rw [if_neg hm]
    exact fok_of h1 (scope_ok h.1.1.1) h2 h3 hps h.1.1.2 (by rw [hps]; exact h.1.2) fun X E F hN hs hf hq _ => good_ss U Φ kt d.code.body _ _ h.2 L X E ok F ⟨hN, hs, hf, fun z => absurd z hm⟩
theorem fok_bad (D : DfOk U d) (hle : d.code.pars ≤ d.N.length) : FOk U L d.x d.code.pars (fun _ _ => .bad) := by
  obtain ⟨f, fd, h1, h2, h3, _⟩ := D.ex
  have hps : d.ps.length = d.code.pars := by unfold Df.ps; rw [List.length_take]; omega
  refine ⟨⟨f, fd, d.ps, ⟨fun vs H Q E h => ?_, fun A outer s H args us vs Q E _ _ _ _ h => ?_⟩, h2, h1.kp, h3, hps⟩, fun _ _ _ => rfl⟩
  · obtain ⟨_, _, _, _, _, _, h⟩ := h; exact False.elim h
  · obtain ⟨_, _, _, _, _, _, h⟩ := h; exact False.elim h
theorem fok_iter (D : DfOk U d) (ok : KtOk U (PP acc) L kt) (h : chkD (nxt kt d acc.length) d = true) : ∀ k, FOk U (L + 3 + 3 * k) d.x d.code.pars (iterF U.M.gl acc d k)
  | 0 => fok_bad D (by unfold chkD at h; simp only [Bool.and_eq_true, decide_eq_true_eq] at h; exact h.1.2)
  | k + 1 => (fok_one D (ok.add (fok_iter D ok h k) (Nat.le_refl _) (by omega)) h).mono (by have := up1_le d; omega)
theorem all_ok : ∀ (ds : List Df) (acc : List Fn) (kt : Kt) (L : Nat), KtOk U (PP acc) L kt → (∀ d ∈ ds, DfOk U d) → chkAll kt acc.length ds = true → KtOk U (PP (fnsOf U.M.gl ds acc)) (L + levs ds) (ktAll kt acc.length ds)
  | [], acc, kt, L, ok, _, _ => ok
  | d :: ds, acc, kt, L, ok, hD, h => by
    unfold chkAll at h
    rw [Bool.and_eq_true] at h
    have D := hD d (List.mem_cons_self ..)
    have fo : FOk U (L + lev d) d.x d.code.pars (mkFn U.M.gl acc d) := by
      unfold mkFn lev
      by_cases hs : d.self = true
      · rw [if_pos hs, if_pos hs]
        rw [if_pos hs] at h
        exact fok_iter D ok h.1 6
      · rw [if_neg hs, if_neg hs]
        rw [if_neg hs] at h
        exact fok_one D ok h.1
    have ok2 := ok.add fo (Nat.le_refl _) (Nat.le_add_right _ _)
    have hl : (acc ++ [mkFn U.M.gl acc d]).length = acc.length + 1 := by simp
    have := all_ok ds (acc ++ [mkFn U.M.gl acc d]) (nxt kt d acc.length) (L + lev d) ok2 (fun e he => hD e (List.mem_cons_of_mem _ he)) (by rw [hl]; exact h.2)
    rw [hl] at this
    unfold fnsOf ktAll levs
    rw [← Nat.add_assoc]
    exact this
end
end G
end
section
set_option Elab.async false
set_option linter.all false
set_option maxRecDepth 100000
set_option maxHeartbeats 2000000
/-! the law's own frame: the cells, the rounds, the turns -/
namespace G
open PySem PySem.Spec PyProof.Rows L2
/-! ### _law_cell -/
def shCell : List Stmt → Bool
  | [.If (.Compare (.Name x1 _) [.Eq] [.List [] _] _) [.Return (some (.BinOp (.Name x2 _) .Mult (.Constant (.int c1) _ _) _)) _] [] _,
     .Return (some (.BinOp (.Subscript (.Name x3 _) (.BinOp (.Name x4 _) .Mod (.Call (.Name x5 _) [.Name x6 _] [] _) _) _) .Add (.BinOp (.BinOp (.Name x7 _) .FloorDiv (.Call (.Name x8 _) [.Name x9 _] [] _) _) .Mult (.Constant (.int c2) _ _) _) _)) _] =>
    decide (x1 = "_law_script") && decide (x2 = "_law_k") && decide (c1 = 7919) && decide (x3 = "_law_script") && decide (x4 = "_law_k") && decide (x5 = "len") && decide (x6 = "_law_script") && decide (x7 = "_law_k") && decide (x8 = "len") && decide (x9 = "_law_script") && decide (c2 = 104729)
  | _ => false
def chkCell (d : Df) : Bool := scopeC d.N d.ps (defScope d.st) && decide (d.N = (["_law_script", "_law_k"] : List Str)) && decide (d.code.pars = 2) && shCell (defBody d.st) && nameV d.ga 0 "_law_script" && nameV d.ga 1 "_law_k" && nameG d.ga "len"
def spCell (K : PySem.W.Frag) : Sp := fun vs H Q _ => ∃ (a : Addr) (ns : List Int) (k : Int), vs = [.ref a, .int k] ∧ SqL K H a (ns.map V.int) ∧ ns.length ≤ 63 ∧ 0 ≤ k ∧ k ≤ 100 ∧ ∀ (c : Int) (H' : Hp), (∀ b o, H b = some o → H' b = some o) → Q (.int c) H'
theorem op_eqE {X : Cx} {L : Nat} (hr : Room L X.A) : OpR X (compareOp .Eq) (fun x y H Q => ∃ (a b : Addr) (ns : List Int), x = .ref a ∧ y = .ref b ∧ SqL X.K H a (ns.map V.int) ∧ H b = some (.lst []) ∧ Q (.bl ns.isEmpty) H) := by
  intro pins s σ H x y v u Q I rx ry ⟨a, b, ns, ex, ey, h1, h2, q⟩
  subst ex ey
  have d1 : Dp X.K H (.ref a) (.list (ns.map PyData.int)) := .lst h1 (by
    clear h1 q
    induction ns with
    | nil => exact .nil
    | cons n ns ih => exact .cons (.int n) ih)
  have d2 : Dp X.K H (.ref b) (.list []) := .lst (SqL.of h2) .nil
  obtain ⟨as, r1⟩ := Dp.reads I _ _ _ d1 rx
  obtain ⟨bs, r2⟩ := Dp.reads I _ _ _ d2 ry
  have p1 : (PyData.list (ns.map PyData.int)).plain = true := by
    show PyData.plainAll _ = true
    clear h1 q d1 r1
    induction ns with
    | nil => rfl
    | cons n ns ih => show (true && _) = true; rw [ih]; rfl
  have hd : (PyData.list []).depth ≤ 1 := by decide
  refine SeqAt.eq_plain r1 r2 p1 rfl (by have := hr.units; omega) ⟨.bl ns.isEmpty, H, I, ?_, q⟩
  show Value.bool _ = Value.bool _
  congr 1
  cases ns <;> rfl
structure Built (U : Wd) (k : Nat) (x : Str) (n : Nat) (sp : Sp) : Prop where
  ex : ∃ (f : Addr) (fd : FuncData) (ps : List Str), FnOk U.P U.w U.M.K U.mg U.base (L2N.CX U.P U.w) k f fd ps sp ∧ U.mg x = some (.ref f) ∧ PySem.W.keepIn U.M.K (.ref f) = true ∧ Binds U.M.K fd ps [] ∧ ps.length = n
theorem sql_up {K : PySem.W.Frag} {H H' : Hp} {a : Addr} {xs : List V} (h : SqL K H a xs) (e : ∀ b o, H b = some o → H' b = some o) : SqL K H' a xs := by
  rcases h with (h | ⟨o, h⟩) | h
  · exact .inl (.inl (e _ _ h))
  · exact .inl (.inr ⟨o, e _ _ h⟩)
  · exact .inr h
theorem upd_up {H : Hp} {p : Addr} {o : HO} (hp : H p = none) : ∀ b u, H b = some u → upd H p o b = some u := fun b u e => by rw [upd_ne (ne_of_none e hp)]; exact e
section
variable {U : Wd} {d : Df}
theorem ok_cell (D : DfOk U d) (hl : U.mg "len" = none) (h : chkCell d = true) : Built U 1 d.x 2 (spCell U.M.K) := by
  obtain ⟨f, fd, h1, h2, h3, _⟩ := D.ex
  unfold chkCell at h
  simp only [Bool.and_eq_true, decide_eq_true_eq] at h
  obtain ⟨⟨⟨⟨⟨⟨hs, hN⟩, hp⟩, hb⟩, hv0⟩, hv1⟩, hg⟩ := h
  have hps : d.ps = (["_law_script", "_law_k"] : List Str) := by unfold Df.ps; rw [hN, hp]; rfl
  refine ⟨f, fd, d.ps, ?_, h2, h1.kp, h3, by rw [hps]; rfl⟩
  refine h1.ok (scope_ok hs) (fun vs H Q E ⟨a, ns, k, e, _⟩ => by rw [e, hps]; rfl) fun cdv A outer s H vs Q E hr ⟨a, ns, k, e, hS, hn, hk0, hk1, hQ⟩ => ?_
  subst e
  generalize hX : cxOf (L2N.CX U.P U.w) U.P U.w U.M.K U.mg U.base d.N d.x (defScope d.st) f cdv A outer s H E = X
  have at_ : At U 0 d.ga X := by subst hX; exact ⟨rfl, rfl, fun _ => rfl, fun z => by cases z⟩
  have hK : X.K = U.M.K := by subst hX; rfl
  have hm : X.mg "len" = none := by subst hX; exact hl
  have hrX : Room 0 X.A := by subst hX; exact hr
  obtain ⟨v0, v1, v2, v3⟩ := at_.v hv0
  obtain ⟨u0, u1, u2, u3⟩ := at_.v hv1
  obtain ⟨g1, g2, g3⟩ := at_.g hg
  unfold shCell at hb
  split at hb
  rotate_left
  · cases hb
  rename_i e0
  simp only [Bool.and_eq_true, decide_eq_true_eq] at hb
  obtain ⟨⟨⟨⟨⟨⟨⟨⟨⟨⟨rfl, rfl⟩, rfl⟩, rfl⟩, rfl⟩, rfl⟩, rfl⟩, rfl⟩, rfl⟩, rfl⟩, rfl⟩ := hb
  rw [e0]
  refine ⟨_, pss_cons (ps_if (pt_cmpR (op_eqE hrX) (pe_var v0 v1 v2 v3) (pe_lst pa_nil) rfl) (pss_one (ps_ret (pe_op op_mul (pe_var u0 u1 u2 u3) pe_int))) pss_nil)
    (pss_one (ps_ret (pe_op op_add (pe_ix ix_list (pe_var v0 v1 v2 v3) (pe_op op_mod (pe_var u0 u1 u2 u3) (pe_callB call_len_seq g1 hm PySem.boot_len (pa_cons (pe_var v0 v1 v2 v3) pa_nil rfl) g3 g2 rfl rfl)) (plainIx_of rfl))
      (pe_op op_mul (pe_op op_fdiv (pe_var u0 u1 u2 u3) (pe_callB call_len_seq g1 hm PySem.boot_len (pa_cons (pe_var v0 v1 v2 v3) pa_nil rfl) g3 g2 rfl rfl)) pe_int)))), ?_⟩
  have st0 : (start d.N [V.ref a, .int k])[0]? = some (some (.ref a)) := rfl
  have st1 : (start d.N [V.ref a, .int k])[1]? = some (some (.int k)) := rfl
  refine ⟨_, st0, Nat.zero_le _, fun p hp => ⟨a, p, ns, rfl, rfl, by rw [hK]; exact sql_up hS (upd_up hp), upd_same, ns.isEmpty, rfl, ?_⟩⟩
  have hS' : SqL X.K (upd H p (.lst [])) a (ns.map V.int) := by rw [hK]; exact sql_up hS (upd_up hp)
  have end_ : ∀ c : Int, Q (.int c) (upd H p (.lst [])) := fun c => hQ c _ (upd_up hp)
  cases hne : ns with
  | nil =>
    show (if true = true then _ else _)
    rw [if_pos rfl]
    exact ⟨_, st1, k, 7919, rfl, rfl, .inl (by constructor <;> omega), end_ _⟩
  | cons n0 nr =>
    show (if false = true then _ else _)
    rw [if_neg (by simp)]
    have hlen : 0 < ns.length := by rw [hne]; exact Nat.succ_pos _
    have hml : (ns.map V.int).length = ns.length := List.length_map ..
    have hm0 : 0 ≤ k % (ns.length : Int) := Int.emod_nonneg _ (by omega)
    have hm1 : k % (ns.length : Int) < ns.length := Int.emod_lt_of_pos _ (by omega)
    refine ⟨_, st0, _, st1, _, st0, a, ns.map V.int, rfl, .inl hS', k, ((ns.map V.int).length : Nat), rfl, rfl, by rw [hml]; omega, ?_⟩
    rw [hml]
    have hat : ∃ z, atI (ns.map V.int) (k % (ns.length : Int)) = some (.int z) := by
      unfold atI ixN
      rw [hml, if_pos hm0, if_pos hm1]
      have hlt : (k % (ns.length : Int)).toNat < ns.length := by omega
      exact ⟨ns[(k % (ns.length : Int)).toNat], by simp [hlt]⟩
    obtain ⟨z, hz⟩ := hat
    refine ⟨a, ns.map V.int, _, _, rfl, rfl, hS', hz, _, st1, _, st0, a, ns.map V.int, rfl, .inl hS', k, ((ns.map V.int).length : Nat), rfl, rfl, ?_, _, _, rfl, rfl, .inr (by constructor <;> omega), _, _, rfl, rfl, end_ _⟩
    rw [hml]
    refine ⟨by omega, ?_⟩
    omega
theorem ite_yes {P Q : Prop} (h : P) : (if true = true then P else Q) := by rw [if_pos rfl]; exact h
/-! ### _law_rounds -/
def shRounds : List Stmt → Option Scope
  | [.Return (some (.ListComp (.List [.Call (.Name c _) [.Name s _, .Name k _] [] _, .Constant (.int z) _ _] _)
      [⟨.Name k2 _, .Call (.Name r _) [.Call (.Name mx _) [.Constant (.int o) _ _, .Call (.Name mn _) [.Name m _, .Call (.Name ln _) [.Name s2 _] [] _] [] _] [] _] [] _, [], 0⟩] scope _)) _] =>
    if decide (c = "_law_cell") && decide (s = "_law_script") && decide (k = "_law_k") && decide (z = 0) && decide (k2 = "_law_k") && decide (r = "range") && decide (mx = "max") && decide (o = 1) && decide (mn = "min") && decide (m = "_law_most") && decide (ln = "len") && decide (s2 = "_law_script") then some scope else none
  | _ => none
def chkRounds (d : Df) : Bool := scopeC d.N d.ps (defScope d.st) && decide (d.N = (["_law_script", "_law_most", "_law_k"] : List Str)) && decide (d.code.pars = 2) &&
  (match shRounds (defBody d.st) with
  | some scope => blkC d.N (defScope d.st) scope [("_law_k", 2)] && nameV d.ga 0 "_law_script" && nameV d.ga 1 "_law_most" && nameG d.ga "range" && nameG d.ga "max" && nameG d.ga "min" && nameG d.ga "len" &&
    nameS ⟨d.N, relS scope (defScope d.st), some scope, false⟩ 2 "_law_k" && nameV ⟨d.N, relS scope (defScope d.st), some scope, false⟩ 0 "_law_script" && nameV ⟨d.N, relS scope (defScope d.st), some scope, false⟩ 2 "_law_k" && nameG ⟨d.N, relS scope (defScope d.st), some scope, false⟩ "_law_cell"
  | none => false)
/-- the rounds' lists: each its own, of a cell and 0 -/
structure Rnds (H H' : Hp) (p : Addr) (ps : List Addr) (cs : List Int) : Prop where
  len : cs.length = ps.length
  lst : H' p = some (.lst (ps.map V.ref))
  at_ : ∀ (i : Nat) (q : Addr) (c : Int), ps[i]? = some q → cs[i]? = some c → H' q = some (.lst [.int c, .int 0])
  nd : ps.Nodup
  out : p ∉ ps
  keep : ∀ b o, H b = some o → H' b = some o
def spRounds (K : PySem.W.Frag) : Sp := fun vs H Q _ => ∃ (a : Addr) (ns : List Int) (m : Int), vs = [.ref a, .int m] ∧ SqL K H a (ns.map V.int) ∧ ns.length ≤ 63 ∧ m ≤ 50 ∧ ∀ p ps cs H', Rnds H H' p ps cs → Q (.ref p) H'
theorem ok_rounds (D : DfOk U d) (hf : ∀ x ∈ (["range", "max", "min", "len"] : List Str), U.mg x = none) (hc : Built U 1 "_law_cell" 2 (spCell U.M.K)) (h : chkRounds d = true) : Built U 2 d.x 2 (spRounds U.M.K) := by
  obtain ⟨f, fd, h1, h2, h3, _⟩ := D.ex
  unfold chkRounds at h
  simp only [Bool.and_eq_true, decide_eq_true_eq] at h
  obtain ⟨⟨⟨hs, hN⟩, hp⟩, hb⟩ := h
  have hps : d.ps = (["_law_script", "_law_most"] : List Str) := by unfold Df.ps; rw [hN, hp]; rfl
  refine ⟨f, fd, d.ps, ?_, h2, h1.kp, h3, by rw [hps]; rfl⟩
  refine h1.ok (scope_ok hs) (fun vs H Q E ⟨a, ns, k, e, _⟩ => by rw [e, hps]; rfl) fun cdv A outer s H vs Q E hr ⟨a, ns, m, e, hS, hn, hm, hQ⟩ => ?_
  subst e
  obtain ⟨fc, fdc, pc, c1, c2, c3, c4, c5⟩ := hc.ex
  have tk : L2N.Takes (cxOf (L2N.CX U.P U.w) U.P U.w U.M.K U.mg U.base d.N d.x (defScope d.st) f cdv A outer s H E) (fun c d _ H => E c d H) := L2N.takes_of rfl rfl rfl rfl
  have F : Fit U 1 E (cxOf (L2N.CX U.P U.w) U.P U.w U.M.K U.mg U.base d.N d.x (defScope d.st) f cdv A outer s H E) := ⟨rfl, rfl, rfl, rfl, rfl, hr, rfl, (scope_ok hs).nd, L2N.passes_call tk (fun _ _ _ _ h => h), (scope_ok hs).kind⟩
  have at_ : At U 1 d.ga (cxOf (L2N.CX U.P U.w) U.P U.w U.M.K U.mg U.base d.N d.x (defScope d.st) f cdv A outer s H E) := ⟨rfl, rfl, fun _ => rfl, fun z => by cases z⟩
  generalize cxOf (L2N.CX U.P U.w) U.P U.w U.M.K U.mg U.base d.N d.x (defScope d.st) f cdv A outer s H E = X at F at_
  have hmg : ∀ x ∈ (["range", "max", "min", "len"] : List Str), X.mg x = none := by rw [F.mg]; exact hf
  cases hsh : shRounds (defBody d.st) with
  | none => rw [hsh] at hb; cases hb
  | some scope =>
  rw [hsh] at hb
  simp only [Bool.and_eq_true] at hb
  obtain ⟨⟨⟨⟨⟨⟨⟨⟨⟨⟨hbk, hv0⟩, hv1⟩, hg1⟩, hg2⟩, hg3⟩, hg4⟩, hsk⟩, hw0⟩, hw2⟩, hgc⟩ := hb
  obtain ⟨v0, v1, v2, v3⟩ := at_.v hv0
  obtain ⟨u0, u1, u2, u3⟩ := at_.v hv1
  obtain ⟨r1, r2, r3⟩ := at_.g hg1
  obtain ⟨x1, x2, x3⟩ := at_.g hg2
  obtain ⟨m1, m2, m3⟩ := at_.g hg3
  obtain ⟨l1, l2, l3⟩ := at_.g hg4
  unfold shRounds at hsh
  split at hsh
  rotate_left
  · cases hsh
  rename_i e0
  split at hsh
  rotate_left
  · cases hsh
  rename_i e1
  cases hsh
  simp only [Bool.and_eq_true, decide_eq_true_eq] at e1
  obtain ⟨⟨⟨⟨⟨⟨⟨⟨⟨⟨⟨rfl, rfl⟩, rfl⟩, rfl⟩, rfl⟩, rfl⟩, rfl⟩, rfl⟩, rfl⟩, rfl⟩, rfl⟩, rfl⟩ := e1
  rw [e0]
  have hk : scope.kind = .function := by
    unfold blkC at hbk
    simp only [Bool.and_eq_true] at hbk
    have := hbk.1.1.1
    split at this
    · rename_i e; exact e
    · cases this
  have ok2 : BlkOk X.N X.env.scope scope [("_law_k", 2)] := by
    rw [at_.N, at_.sc]
    exact blkOk_by hbk
  have fit : ∀ (s : Shared) (H : Hp) (C : Addr) (cl : List (Str × Addr)) (fp : List Addr), Fit U 1 noE (X.blk s H scope (compEnvC scope cl C X.env) fp) := fun s H C cl fp => F.blk hk
  have atb : ∀ (s : Shared) (H : Hp) (C : Addr) (cl : List (Str × Addr)) (fp : List Addr), At U 1 ⟨d.N, relS scope (defScope d.st), some scope, false⟩ (X.blk s H scope (compEnvC scope cl C X.env) fp) := fun s H C cl fp => at_.blkA
  have he : ∀ (s : Shared) (H : Hp) (C : Addr) (cl : List (Str × Addr)) (fp : List Addr) (p1 p2 p3 p4 p5 p6 : Pos) (j : Nat), PE (X.blk s H scope (compEnvC scope cl C X.env) fp) (.List [.Call (.Name "_law_cell" p1) [.Name "_law_script" p2, .Name "_law_k" p3] [] p4, .Constant (.int 0) j p5] p6)
      (tLst (tCons (tCall (spCell U.M.K) [] noE (tCons (tVar 0) (tCons (tVar 2) tNil))) (tCons (L2.tC (.int 0)) tNil))) := fun s H C cl fp p1 p2 p3 p4 p5 p6 j => by
    have F2 := fit s H C cl fp
    have A2 := atb s H C cl fp
    obtain ⟨w0, w1, w2, w3⟩ := A2.v hw0
    obtain ⟨z0, z1, z2, z3⟩ := A2.v hw2
    obtain ⟨g1, g2, g3⟩ := A2.g hgc
    have c1 := c1
    have c2 := c2
    have c3 := c3
    have c4 := c4
    rw [← F2.prog, ← F2.w, ← F2.K, ← F2.mg, ← F2.base] at c1
    rw [← F2.mg] at c2
    rw [← F2.K] at c3 c4
    have hp := F2.passes
    rw [← F2.prog, ← F2.w] at hp
    have := pe_call (E := noE) (p := p1) (pos := p4) c1 F2.room g1 c2 c3 c4 .nil hp (pa_cons (pe_var (pos := p2) w0 w1 w2 w3) (pa_cons (pe_var (pos := p3) z0 z1 z2 z3) pa_nil rfl) rfl) g2 rfl rfl
    rw [F2.K] at this
    exact pe_lst (pa_cons this (pa_cons pe_int pa_nil rfl) rfl)
  refine ⟨_, pss_one (ps_ret (pe_lc F.calm F.nd (pi_range1 r1 (hmg _ (by simp)) (pa_cons (pe_callB (call_max2 F.calm) x1 (hmg _ (by simp)) (by decide +kernel) (pa_cons pe_int (pa_cons (pe_callB (call_min2 F.calm) m1 (hmg _ (by simp)) (by decide +kernel)
    (pa_cons (pe_var u0 u1 u2 u3) (pa_cons (pe_callB call_len_seq l1 (hmg _ (by simp)) PySem.boot_len (pa_cons (pe_var v0 v1 v2 v3) pa_nil rfl) l3 l2 rfl rfl) pa_nil rfl) rfl) m3 m2 rfl rfl) pa_nil rfl) rfl) x3 x2 rfl rfl) pa_nil rfl) rfl) ok2
    (fun s H C cl fp => pg_name (fit s H C cl fp).nd ((atb s H C cl fp).s hsk).at_ ((atb s H C cl fp).s hsk).loc ((atb s H C cl fp).s hsk).fn) (fun s H C cl fp => pts_nil) (fun s H C cl fp => he s H C cl fp _ _ _ _ _ _ _))), ?_⟩
  have st0 : (start d.N [V.ref a, .int m])[0]? = some (some (.ref a)) := rfl
  have st1 : (start d.N [V.ref a, .int m])[1]? = some (some (.int m)) := rfl
  have hml : (ns.map V.int).length = ns.length := List.length_map ..
  have hsl : (start d.N [V.ref a, .int m]).length = 3 := by rw [hN]; rfl
  refine ⟨_, st1, _, st0, a, ns.map V.int, rfl, .inl (by rw [F.K]; exact hS), m, ((ns.map V.int).length : Nat), rfl, 1, _, rfl, _, rfl, ?_, ?_, fun Da hD => ?_⟩
  · rw [hml]; split <;> split <;> omega
  · rw [hml]; split <;> split <;> omega
  · refine lc_range (fun i H' => ∃ (ps : List Addr) (cs : List Int), ps.length = i ∧ cs.length = i ∧ H' Da = some (.lst (ps.map V.ref)) ∧ (∀ (j : Nat) (q : Addr) (c : Int), ps[j]? = some q → cs[j]? = some c → H' q = some (.lst [.int c, .int 0])) ∧ ps.Nodup ∧ Da ∉ ps ∧ (∀ q ∈ ps, H' q ≠ none) ∧ ∀ b o, H b = some o → H' b = some o) ?_ ?_ ?_
    · exact ⟨[], [], rfl, rfl, upd_same, fun j q c e _ => by simp at e, List.nodup_nil, by simp, by simp, upd_up hD⟩
    · rintro i H' hi ⟨ps, cs, hl1, hl2, hDa, hat, hnd, hout, hne, hkeep⟩
      have hi : i ≤ 63 := by
        rw [hml] at hi
        split at hi <;> split at hi <;> omega
      refine ⟨?_, ?_⟩
      · refine (wipe_eq (σ := wipe (start d.N [V.ref a, .int m]) ([(("_law_k" : Str), 2)].map (·.2))) (by rw [List.length_set]) fun j hj => ?_).trans (wipe_eq (wipe_length _ _) fun j hj => wipe_out hj)
        have : j ≠ 2 := fun z => hj (by rw [z]; simp)
        rw [get_set, if_neg fun z => this z.1.symm]
      · simp only [tYes, ↓reduceIte]
        have w0 : ((wipe (start d.N [V.ref a, .int m]) ([(("_law_k" : Str), 2)].map (·.2))).set 2 (some (.int (0 + (i : Int)))))[0]? = some (some (.ref a)) := by rw [hN]; rfl
        have w2 : ((wipe (start d.N [V.ref a, .int m]) ([(("_law_k" : Str), 2)].map (·.2))).set 2 (some (.int (0 + (i : Int)))))[2]? = some (some (.int (0 + (i : Int)))) := by rw [hN]; rfl
        refine ⟨_, w0, _, w2, a, ns, 0 + (i : Int), rfl, sql_up hS hkeep, hn, by omega, by omega, fun c H2 hk2 => ⟨by show 2 ≤ sizeLine; decide, fun q hq => ?_⟩⟩
        have hDq : Da ≠ q := ne_of_none (hk2 _ _ hDa) hq
        refine ⟨ps.map V.ref, by rw [upd_ne hDq]; exact hk2 _ _ hDa, by rw [List.length_map, hl1]; rw [← lim_eq]; unfold lim; omega, ps ++ [q], cs ++ [c], by simp [hl1], by simp [hl2], by rw [upd_same]; simp, ?_, ?_, ?_, ?_, ?_⟩
        · intro j q' c' e1 e2
          by_cases hj : j < ps.length
          · rw [List.getElem?_append_left hj] at e1
            rw [List.getElem?_append_left (by omega)] at e2
            have hx := hat j q' c' e1 e2
            have n1 : q' ≠ Da := fun z => hout (by rw [← z]; exact List.mem_of_getElem? e1)
            rw [upd_ne n1, upd_ne (ne_of_none (hk2 _ _ hx) hq)]
            exact hk2 _ _ hx
          · rw [List.getElem?_append_right (by omega)] at e1 e2
            rw [hl1] at e1
            rw [hl2] at e2
            cases hz : j - i with
            | zero =>
              rw [hz] at e1 e2
              cases e1
              cases e2
              rw [upd_ne (Ne.symm hDq), upd_same]
            | succ z => rw [hz] at e1; simp at e1
        · rw [List.nodup_append]
          refine ⟨hnd, by simp, fun x hx y hy => ?_⟩
          have hy : y = q := by simpa using hy
          subst hy
          intro z
          subst z
          cases hxo : H' x with
          | none => exact hne x hx hxo
          | some o => rw [hk2 _ _ hxo] at hq; cases hq
        · rw [List.mem_append]
          rintro (z | z)
          · exact hout z
          · exact hDq (by simpa using z)
        · intro q' hq'
          by_cases e1 : q' = Da
          · rw [e1, upd_same]; simp
          · rw [upd_ne e1]
            by_cases e2 : q' = q
            · rw [e2, upd_same]; simp
            · rw [upd_ne e2]
              rcases List.mem_append.mp hq' with z | z
              · cases hxo : H' q' with
                | none => exact absurd hxo (hne q' z)
                | some o => rw [hk2 _ _ hxo]; simp
              · exact absurd (by simpa using z) e2
        · intro b o hb
          rw [upd_ne (ne_of_none hb hD), upd_ne (ne_of_none (hk2 _ _ (hkeep _ _ hb)) hq)]
          exact hk2 _ _ (hkeep _ _ hb)
    · rintro H' ⟨ps, cs, hl1, hl2, hDa, hat, hnd, hout, hne, hkeep⟩
      exact hQ Da ps cs H' ⟨by omega, hDa, hat, hnd, hout, hkeep⟩
/-! ### the law -/
def shLaw : List Stmt → Option (Int × List Stmt)
  | [.For (.Name x _) (.Call (.Name r _) [.Name s _, .Constant (.int m) _ _] [] _) bd [] _, .Return (some (.Constant (.bool b) _ _)) _] =>
    if decide (x = "_law_dice") && decide (r = "_law_rounds") && decide (s = "_law_script") && b && decide (m ≤ 50) then some (m, bd) else none
  | _ => none
/-- the law's def: kt the names ahead of it, b its loop's body, di the slot of the dice -/
def chkLaw (kt : Kt) (d : Df) (b : Ss) (di : Nat) : Bool := scopeC d.N d.ps (defScope d.st) && decide (d.N[0]? = some ("_law_script" : Str)) && decide (d.code.pars = 1) && decide (1 ≤ d.N.length) &&
  (match shLaw (defBody d.st) with
  | some (_, bd) => nameV d.ga 0 "_law_script" && nameS d.ga di "_law_dice" && nameG d.ga "_law_rounds" && chkSs kt b ⟨d.N, defScope d.st, none, d.maker⟩ bd
  | none => false)
def spLaw (M : Mw) : Sp := fun vs H Q _ => ∃ (a : Addr) (ns : List Int), vs = [.ref a] ∧ SqL M.K H a (ns.map V.int) ∧ ns.length ≤ 63 ∧ LamX.Tabs M.T H ∧ ∀ H', Q (.bl true) H'
def env0 (n di : Nat) : Env := (List.replicate n Slot.no).set di (.w .dice)
theorem fn_law {Φ : Nat → Option Fn} {kt : Kt} {L : Nat} {b : Ss} {di : Nat} {f : Addr} {fd : FuncData} (h1 : FunD U.M.K d.x d.x (defArgs d.st) (defBody d.st) (defScope d.st) [] [] f fd) (ok : KtOk U Φ L kt) (hL : 2 ≤ L) (hr0 : Built U 2 "_law_rounds" 2 (spRounds U.M.K)) (h : chkLaw kt d b di = true)
    (hlam : d.maker = true → ∀ c, fd.code = .ref c → ∃ P, LamX.TabB U.base U.mg c P ∧ (P, d.x ++ ".<locals>." ++ "<lambda>") ∈ U.M.T ∧ ∀ p ∈ U.M.T, p.1 = P → p.2 = d.x ++ ".<locals>." ++ "<lambda>")
    (pure_ : ∀ c : Int, ∃ δ s, evSs U.M.gl Φ b (env0 d.N.length di) ⟨some (c, 0), none⟩ = .nx δ s ∧ δ.length = d.N.length) : FnOk U.P U.w U.M.K U.mg U.base (L2N.CX U.P U.w) (L + 3) f fd d.ps (spLaw U.M) := by
  unfold chkLaw at h
  simp only [Bool.and_eq_true, decide_eq_true_eq] at h
  obtain ⟨⟨⟨⟨hs, hN⟩, hp⟩, hle⟩, hb⟩ := h
  have hps : d.ps.length = 1 := by unfold Df.ps; rw [List.length_take, hp]; omega
  obtain ⟨oc, od, dV, kV, doc, pm, an, cdv, ct, osl, rfl, lk, hcd, _, _⟩ := h1.ex
  have hcr : ∃ c, cdv = .ref c := by
    cases cdv with
    | ref c => exact ⟨c, rfl⟩
    | _ => cases hcd
  refine fn_of lk hcd (scope_ok hs) (fun vs H Q E ⟨a, ns, e, _⟩ => by rw [e, hps]; rfl) fun A outer s H vs Q E hr ⟨a, ns, e, hS, hn, htab, hQ⟩ => ?_
  subst e
  obtain ⟨fc, fdc, pc, c1, c2, c3, c4, c5⟩ := hr0.ex
  have tk : L2N.Takes (cxOf (L2N.CX U.P U.w) U.P U.w U.M.K U.mg U.base d.N d.x (defScope d.st) f cdv A outer s H E) (fun c d _ H => E c d H) := L2N.takes_of rfl rfl rfl rfl
  have F2 : Room (L + 2) (cxOf (L2N.CX U.P U.w) U.P U.w U.M.K U.mg U.base d.N d.x (defScope d.st) f cdv A outer s H E).A := hr
  have hr := hr.mono (show L ≤ L + 2 by omega)
  have F : FitS U L E (cxOf (L2N.CX U.P U.w) U.P U.w U.M.K U.mg U.base d.N d.x (defScope d.st) f cdv A outer s H E) := ⟨⟨rfl, rfl, rfl, rfl, rfl, hr, rfl, (scope_ok hs).nd, L2N.passes_call tk (fun _ _ _ _ h => h), (scope_ok hs).kind⟩, passes_of rfl, tk⟩
  have at_ : At U L ⟨d.N, defScope d.st, none, d.maker⟩ (cxOf (L2N.CX U.P U.w) U.P U.w U.M.K U.mg U.base d.N d.x (defScope d.st) f cdv A outer s H E) := ⟨rfl, rfl, fun _ => rfl, fun z => by
    obtain ⟨c, e⟩ := hcr
    obtain ⟨P, q1, q2, q3⟩ := hlam z c e
    exact ⟨⟨c, P, e, q1, q2, q3⟩, F2⟩⟩
  clear F2
  generalize cxOf (L2N.CX U.P U.w) U.P U.w U.M.K U.mg U.base d.N d.x (defScope d.st) f cdv A outer s H E = X at F at_
  cases hsh : shLaw (defBody d.st) with
  | none => rw [hsh] at hb; cases hb
  | some mb =>
  obtain ⟨m, bd⟩ := mb
  rw [hsh] at hb
  simp only [Bool.and_eq_true] at hb
  obtain ⟨⟨⟨hv0, hsd⟩, hg⟩, hck⟩ := hb
  obtain ⟨v0, v1, v2, v3⟩ := at_.v hv0
  obtain ⟨g1, g2, g3⟩ := at_.g hg
  have sd := at_.s hsd
  unfold shLaw at hsh
  split at hsh
  rotate_left
  · cases hsh
  rename_i e0
  split at hsh
  rotate_left
  · cases hsh
  rename_i e1
  cases hsh
  simp only [Bool.and_eq_true, decide_eq_true_eq] at e1
  obtain ⟨⟨⟨⟨rfl, rfl⟩, rfl⟩, rfl⟩, hm⟩ := e1
  rw [e0]
  rw [← F.prog, ← F.w, ← F.K, ← F.mg, ← F.base] at c1
  rw [← F.mg] at c2
  rw [← F.K] at c3 c4
  have hpass := F.passes
  rw [← F.prog, ← F.w] at hpass
  refine ⟨_, pss_cons (ps_for F.own F.calm (pi_list (pe_call (E := E) c1 (F.room.mono hL) g1 c2 c3 c4 .nil hpass (pa_cons (pe_var v0 v1 v2 v3) (pa_cons pe_int pa_nil rfl) rfl) g2 rfl rfl)) (pg_name F.nd sd.at_ sd.loc sd.fn)
    (good_ss U Φ kt b ⟨d.N, defScope d.st, none, d.maker⟩ bd hck L X E ok F at_) (fun _ => rfl)) (pss_one (ps_ret pe_bl)), ?_⟩
  have hdi : di < d.N.length := by
    have := sd.at_
    rw [at_.N] at this
    exact (List.getElem?_eq_some_iff.mp this).1
  have st0 : (start d.N [V.ref a])[0]? = some (some (.ref a)) := rfl
  have hsl : (start d.N [V.ref a]).length = d.N.length := by unfold L2.start; simp; omega
  refine ⟨_, st0, a, ns, m, rfl, by rw [F.K]; exact hS, hn, hm, fun p ps cs H1 R => ⟨p, rfl, ⟨_, SqL.of R.lst⟩, ?_⟩⟩
  refine for_list (xs := ps.map V.ref) (fun j σ H' => σ.length = d.N.length ∧ H' p = some (.lst (ps.map V.ref)) ∧ (∀ (j' : Nat) (q : Addr) (c : Int), j ≤ j' → ps[j']? = some q → cs[j']? = some c → H' q = some (.lst [.int c, .int 0])) ∧ LamX.Tabs U.M.T H') ?_ ?_ ?_ ?_
  · exact ⟨hsl, R.lst, fun j' q c _ h1 h2 => R.at_ j' q c h1 h2, htab.ext R.keep⟩
  · exact fun i σ H' _ ⟨_, h, _⟩ => SqL.of h
  · rintro i x σ H' hx ⟨hl, hpl, hat, ht⟩
    rw [List.getElem?_map] at hx
    cases hq : ps[i]? with
    | none => rw [hq] at hx; cases hx
    | some q =>
      rw [hq] at hx
      cases hx
      have hci : ∃ c, cs[i]? = some c := get_some (by rw [R.len]; exact (List.getElem?_eq_some_iff.mp hq).1)
      obtain ⟨c, hc⟩ := hci
      have hHq := hat i q c (Nat.le_refl _) hq hc
      obtain ⟨δ, st, hev, hdl⟩ := pure_ c
      have hpq : p ≠ q := fun z => R.out (by rw [z]; exact List.mem_of_getElem? hq)
      refine ⟨⟨⟨fun _ => none, q, q⟩, H', ⟨fun _ => none, q, q⟩⟩, ⟨fun _ => none, q, q⟩, env0 d.N.length di, ⟨some (c, 0), none⟩, ⟨Le.refl _ _, Sub.refl _⟩, ⟨fun _ _ e => absurd e (by simp), (by rw [hHq]; simp), (by rw [hHq]; simp), (fun c' m' e => by cases e; exact ⟨hHq, rfl⟩), rfl, ht, fun _ _ => rfl⟩, ?_, ?_⟩
      · have hg0 : ∀ (j : Nat) (sl : Slot), (env0 d.N.length di)[j]? = some sl → (j = di ∧ sl = .w .dice) ∨ sl = .no := fun j sl e => by
          unfold env0 at e
          rw [get_set] at e
          split at e
          · rename_i hj
            exact .inl ⟨hj.1.symm, (Option.some.inj e).symm⟩
          · have := List.mem_of_getElem? e
            rw [List.mem_replicate] at this
            exact .inr this.2
        constructor
        · unfold env0
          rw [List.length_set, List.length_replicate, List.length_set, hl]
        · intro j w e
          rcases hg0 j _ e with ⟨rfl, e2⟩ | e2
          · cases e2
            exact ⟨.ref q, by rw [get_set, if_pos ⟨rfl, by rw [hl]; exact hdi⟩], rfl⟩
          · cases e2
        · intro j ds e
          rcases hg0 j _ e with ⟨rfl, e2⟩ | e2 <;> cases e2
        · intro j ds e
          rcases hg0 j _ e with ⟨rfl, e2⟩ | e2 <;> cases e2
        · intro j k a' _ o
          cases e : (env0 d.N.length di)[j]? with
          | none => rw [e] at o; cases o
          | some sl =>
            rw [e] at o
            rcases hg0 j _ e with ⟨rfl, e2⟩ | e2 <;> (subst e2; cases o)
      · show PostS U.M E _ (evSs U.M.gl Φ b (env0 d.N.length di) ⟨some (c, 0), none⟩) _
        rw [hev]
        intro σ' g' H'' l w so
        refine ⟨by rw [← so.len, hdl], l.le.keep p _ hpl hpq hpq not_tbl_lst, fun j' q' c' hj h1 h2 => ?_, w.tabs⟩
        have hne : q' ≠ q := fun z => by
          subst z
          have h3 := (List.getElem?_eq_some_iff.mp h1)
          have h4 := (List.getElem?_eq_some_iff.mp hq)
          have hd := R.nd
          unfold List.Nodup at hd
          rw [List.pairwise_iff_getElem] at hd
          obtain ⟨a1, a2⟩ := h3
          obtain ⟨b1, b2⟩ := h4
          exact hd i j' b1 a1 (by omega) (b2.trans a2.symm)
        exact l.le.keep q' _ (hat j' q' c' (by omega) h1 h2) hne hne not_tbl_lst
  · rintro σ H' _
    exact hQ H'
end
/-- each of them is where it should be -/
def AllD (U : Wd) : List Df → Prop
  | [] => True
  | d :: ds => DfOk U d ∧ AllD U ds
theorem AllD.mem {U : Wd} : ∀ {ds : List Df}, AllD U ds → ∀ d ∈ ds, DfOk U d
  | [], _, _, h => by cases h
  | e :: es, ⟨h1, h2⟩, d, h => by
    rcases List.mem_cons.mp h with rfl | h
    · exact h1
    · exact AllD.mem h2 d h
/-- the whole: cells, rounds, the defs, the law -/
theorem whole {U : Wd} {ds : List Df} {dc dr dl : Df} {b : Ss} {di : Nat} {kt : Kt} {f : Addr} {fd : FuncData} (ok : KtOk U (PP []) 2 kt) (hD : AllD U ds) (hc : DfOk U dc) (hr : DfOk U dr) (hcx : dc.x = "_law_cell") (hrx : dr.x = "_law_rounds")
    (hfree : ∀ x ∈ (["range", "max", "min", "len"] : List Str), U.mg x = none) (hl : FunD U.M.K dl.x dl.x (defArgs dl.st) (defBody dl.st) (defScope dl.st) [] [] f fd)
    (hlam : dl.maker = true → ∀ c, fd.code = .ref c → ∃ P, LamX.TabB U.base U.mg c P ∧ (P, dl.x ++ ".<locals>." ++ "<lambda>") ∈ U.M.T ∧ ∀ p ∈ U.M.T, p.1 = P → p.2 = dl.x ++ ".<locals>." ++ "<lambda>")
    (k1 : chkCell dc = true) (k2 : chkRounds dr = true) (k3 : chkAll kt 0 ds = true) (k4 : chkLaw (ktAll kt 0 ds) dl b di = true)
    (pure_ : ∀ c : Int, ∃ δ s, evSs U.M.gl (PP (fnsOf U.M.gl ds [])) b (env0 dl.N.length di) ⟨some (c, 0), none⟩ = .nx δ s ∧ δ.length = dl.N.length) :
    FnOk U.P U.w U.M.K U.mg U.base (L2N.CX U.P U.w) (2 + levs ds + 3) f fd dl.ps (spLaw U.M) := by
  have cell := ok_cell hc (hfree "len" (by simp)) k1
  rw [hcx] at cell
  have rnds := ok_rounds hr hfree cell k2
  rw [hrx] at rnds
  exact fn_law hl (all_ok ds [] kt 2 ok hD.mem k3) (by omega) rnds k4 hlam pure_
end G
end
section
set_option Elab.async false
set_option linter.all false
set_option maxRecDepth 100000
set_option maxHeartbeats 2000000
/-! what the head tells: the classes of errors, the tables -/
namespace G
open PySem PySem.Spec PyProof.Rows L2
def excCB (K : PySem.W.Frag) (D : Addr) : Bool := decide (PySem.W.findIn K (.ref D) "__getattribute__" = some (some (.builtin "BaseException.__getattribute__"))) && decide (PySem.W.findIn K (.ref D) "__getattr__" = some none) &&
  decide (PySem.W.subIn K (.ref D) (.type "BaseException") = some true) && PySem.W.hasDictIn K D && decide (PySem.W.findIn K (.ref D) "__class__" = some (some (.builtin "object.__class__"))) &&
  decide (PySem.W.specialIn K (.builtin "object.__class__") "__get__" = some (some (.builtin "getset_descriptor.__get__"))) && decide (PySem.W.takesIn K (.builtin "object.__class__") = some true) && decide (PySem.W.mroIn K D (.type "object") = some true)
theorem excC_of {K : PySem.W.Frag} {D : Addr} (h : excCB K D = true) : ExcC K D := by
  unfold excCB at h
  simp only [Bool.and_eq_true, decide_eq_true_eq] at h
  obtain ⟨⟨⟨⟨⟨⟨⟨h1, h2⟩, h3⟩, h4⟩, h5⟩, h6⟩, h7⟩, h8⟩ := h
  exact ⟨h1, h2, h3, h4, h5, h6, h7, h8⟩
def exA (K : PySem.W.Frag) (i : Nat) : Addr := He.ga K (exS i)
def exOne (K : PySem.W.Frag) (i : Nat) : Bool := (He.Fa.glo (exS i)).ok K && (He.Fa.exc (exS i)).ok K && excCB K (exA K i) && decide (PySem.W.kitOne K (.ref (exA K i)) (.type "ValueError") = some true) && (He.Fa.exm (exS i) "DiffError" true).ok K &&
  (List.range 12).all fun j => decide (PySem.W.kitOne K (.ref (exA K i)) (.ref (exA K j)) = some (decide (i = j)))
def tabsNd (tf : List He.Defn) (K : PySem.W.Frag) : Bool := decide ((tf.map fun p => (He.cT K p).2).Nodup)
def exOk (tf : List He.Defn) (K : PySem.W.Frag) : Bool := ((List.range 12).all fun i => exOne K i) && (He.Fa.glo "DiffError").ok K && tabsNd tf K
def tabT (tf : List He.Defn) (K : PySem.W.Frag) : List (Addr × Str) := tf.map fun p => ((He.cT K p).2, p.1 ++ ".<locals>." ++ "<lambda>")
def exl : List (Str × Nat) := exN.zip (List.range 12)
theorem exl_at {x : Str} {i : Nat} (h : exl.lookup x = some i) : i < 12 ∧ x = exS i := by
  have all : ∀ p ∈ exl, p.2 < 12 ∧ p.1 = exS p.2 := by decide +kernel
  exact all (x, i) (PySem.mem_of_lookup h)
section
variable {K : PySem.W.Frag} {h : Heap} {mg : Str → Option Value} {tf : List He.Defn}
theorem ex_one (e : exOk tf K = true) {i : Nat} (hi : i < 12) : exOne K i = true := by
  unfold exOk at e
  simp only [Bool.and_eq_true, List.all_eq_true] at e
  exact e.1.1 i (List.mem_range.mpr hi)
theorem exOne_at {i : Nat} (e : exOne K i = true) : (He.Fa.glo (exS i)).ok K = true ∧ (He.Fa.exc (exS i)).ok K = true ∧ ExcC K (exA K i) ∧ PySem.W.kitOne K (.ref (exA K i)) (.type "ValueError") = some true ∧ (He.Fa.exm (exS i) "DiffError" true).ok K = true ∧ ∀ j, j < 12 → PySem.W.kitOne K (.ref (exA K i)) (.ref (exA K j)) = some (decide (i = j)) := by
  unfold exOne at e
  simp only [Bool.and_eq_true, List.all_eq_true, decide_eq_true_eq] at e
  obtain ⟨⟨⟨⟨⟨e1, e2⟩, e3⟩, e4⟩, e5⟩, e6⟩ := e
  exact ⟨e1, e2, excC_of e3, e4, e5, fun j hj => e6 j (List.mem_range.mpr hj)⟩
theorem clsF_of (X : K.In h) (G : h.Ns mainGlobals mg) (e : exOk tf K = true) : ClsF K mg (exA K) where
  mg := fun i hi => He.glo_ok X G (exOne_at (ex_one e hi)).1
  ex := fun i hi => (exOne_at (ex_one e hi)).2.2.1
  kit := fun i j hi hj => (exOne_at (ex_one e hi)).2.2.2.2.2 j hj
  ve := fun i hi => (exOne_at (ex_one e hi)).2.2.2.1
theorem told_of {U : Wd} (hK : U.M.K = K) (hm : U.mg = mg) (hec : U.M.ec = exA K) (X : K.In h) (G : h.Ns mainGlobals mg) (e : exOk tf K = true) {dt dm : Df} (D1 : DfOk U dt) (c1 : chkTold dt = true) (D2 : DfOk U dm) (c2 : chkTerm dm = true) (fre : ∀ x ∈ (["isinstance", "ValueError", "sum", "int"] : List Str), mg x = none) : ToldOk U where
  told := ⟨dt, D1, c1⟩
  term := ⟨dm, D2, c2⟩
  cls := by rw [hK, hm, hec]; exact clsF_of X G e
  de := by
    refine ⟨He.ga K "DiffError", ?_, fun k hk => ?_⟩
    · rw [hm]
      refine He.glo_ok X G ?_
      unfold exOk at e
      simp only [Bool.and_eq_true] at e
      exact e.1.2
    · rw [hK, hec]
      exact He.exm_ok (exOne_at (ex_one e hk)).2.2.2.2.1
  fre := by rw [hm]; exact fre
theorem eok_of {U : Wd} (hK : U.M.K = K) (hm : U.mg = mg) (hec : U.M.ec = exA K) (X : K.In h) (G : h.Ns mainGlobals mg) (e : exOk tf K = true) {x : Str} {i : Nat} (hx : exl.lookup x = some i) : EOk U x i := by
  obtain ⟨hi, rfl⟩ := exl_at hx
  obtain ⟨e1, e2, _⟩ := exOne_at (ex_one e hi)
  obtain ⟨q1, q2, q3, q4⟩ := He.exc_ok e2
  intro Xc L E F hg p p2 pos m j
  have hp : (exS i == ("__debug__" : Str)) = false := by
    have : ∀ i, i < 12 → (exS i == ("__debug__" : Str)) = false := by decide +kernel
    exact this i hi
  have := L2N.pmk_own (X := Xc) (C := He.ga K (exS i)) (x := exS i) (m := m) (j := j) (p := p) (p2 := p2) (pos := pos) PySem.F.excBase_ValueError (by rw [F.K, hK]; exact q1) (by rw [F.mg, hm]; exact He.glo_ok X G e1) (by rw [F.K, hK]; exact q2) (raises_own (by rw [F.K, hK]; exact q3) (by rw [F.K, hK]; exact q4)) hg hp
  rw [hec]
  exact this
/-- the code object of a def that the head tells of, its table -/
theorem lam_of {U : Wd} (hT : U.M.T = tabT tf K) (hb : ∀ p ∈ tf.map (He.cT K), LamX.TabB U.base U.mg p.1 p.2) (nd : tabsNd tf K = true) {x : Str} (hx : (x, none) ∈ tf) {oc : Value} {od : Option Addr} {osl : Array (Option Value)} {fd : FuncData} (lk : K.lookup (He.fAd K (x, none)) = some ⟨oc, od, .func fd, osl⟩) :
    ∀ c, fd.code = .ref c → ∃ P, LamX.TabB U.base U.mg c P ∧ (P, x ++ ".<locals>." ++ "<lambda>") ∈ U.M.T ∧ ∀ p ∈ U.M.T, p.1 = P → p.2 = x ++ ".<locals>." ++ "<lambda>" := fun c hc => by
  have ec := He.codeOf_eq lk hc
  refine ⟨(He.cT K (x, none)).2, ?_, ?_, ?_⟩
  · have := hb _ (List.mem_map.mpr ⟨_, hx, rfl⟩)
    rw [← ec]
    exact this
  · rw [hT]
    exact List.mem_map.mpr ⟨_, hx, rfl⟩
  · rw [hT]
    intro p hp e
    obtain ⟨q, hq, rfl⟩ := List.mem_map.mp hp
    unfold tabsNd at nd
    rw [decide_eq_true_eq] at nd
    have : q = (x, none) := by
      have nd2 := nd
      unfold List.Nodup at nd2
      rw [List.pairwise_map] at nd2
      by_cases z : q = (x, none)
      · exact z
      · exfalso
        obtain ⟨i, hi, e1⟩ := List.mem_iff_getElem.mp hq
        obtain ⟨j, hj, e2⟩ := List.mem_iff_getElem.mp hx
        rw [List.pairwise_iff_getElem] at nd2
        have hij : i ≠ j := fun z2 => z (by subst z2; rw [← e1, e2])
        rcases Nat.lt_or_gt_of_ne hij with l | l
        · have := nd2 i j hi hj l
          rw [e1, e2] at this
          exact this e
        · have := nd2 j i hj hi l
          rw [e1, e2] at this
          exact this e.symm
    rw [this]
theorem tabs_of {H : Hp} (hH : ∀ p ∈ tf.map (He.cT K), H p.2 = some (.tbl #[])) : LamX.Tabs (tabT tf K) H := fun p hp => by
  obtain ⟨q, hq, rfl⟩ := List.mem_map.mp hp
  exact LamX.TabS.nil (hH _ (List.mem_map.mpr ⟨q, hq, rfl⟩))
end
end G
end
section
set_option Elab.async false
set_option linter.all false
/-! what codes are worth: for simp. What is still to be done behind a value is a name of its own, so that simp never looks at it too early. -/
namespace G
section
variable {gl : Nat → D} {Φ : Nat → Option Fn} {δ : Env} {s : Sto}
@[simp] theorem bind_ok {α β : Type} {a : α} {s : Sto} {f : α → Sto → Res β} : (Res.ok a s).bind f = f a s := rfl
@[simp] theorem bind_exc {α β : Type} {c : Nat} {s : Sto} {f : α → Sto → Res β} : (Res.exc c s).bind f = .exc c s := rfl
@[simp] theorem bind_bad {α β : Type} {f : α → Sto → Res β} : (Res.bad : Res α).bind f = .bad := rfl
@[simp] theorem toS_ok {α : Type} {a : α} {s : Sto} {f : α → Sto → RS} : (Res.ok a s).toS f = f a s := rfl
@[simp] theorem toS_exc {α : Type} {c : Nat} {s : Sto} {f : α → Sto → RS} : (Res.exc c s : Res α).toS f = .exc c s := rfl
@[simp] theorem then_nx {f : Env → Sto → RS} : (RS.nx δ s).then f = f δ s := rfl
@[simp] theorem then_rt {w : W} {f : Env → Sto → RS} : (RS.rt w s).then f = .rt w s := rfl
@[simp] theorem then_exc {c : Nat} {f : Env → Sto → RS} : (RS.exc c s).then f = .exc c s := rfl
@[simp] theorem pure_def {d : D} : pureR d s = .ok (.d d) s := rfl
@[simp] theorem bl_def {b : Bool} : blR b s = .ok (.d (.bl b)) s := rfl
@[simp] theorem noExc_ok {α : Type} {a : α} : noExc (Res.ok a s) = .ok a s := rfl
@[simp] theorem truth_bl_ {b : Bool} : truth (.d (.bl b)) = some b := rfl
/-! ### names for what is still to be done -/
def slotR (o : Option Slot) (s : Sto) : Res W := match o with
  | some (.w w) => .ok w s
  | _ => .bad
@[simp] theorem slotR_w {w : W} : slotR (some (.w w)) s = .ok w s := rfl
def peekR (o : Option Slot) (s : Sto) (r : Res W) : Res W := match o with
  | some (.own ds) => .ok (.d (.lst ds)) s
  | some (.ownd kvs) => .ok (.dct kvs) s
  | _ => r
@[simp] theorem peekR_own {ds : List D} {r : Res W} : peekR (some (.own ds)) s r = .ok (.d (.lst ds)) s := rfl
@[simp] theorem peekR_ownd {kvs : List (D × D)} {r : Res W} : peekR (some (.ownd kvs)) s r = .ok (.dct kvs) s := rfl
@[simp] theorem peekR_w {w : W} {r : Res W} : peekR (some (.w w)) s r = r := rfl
def itemR (o : Option D) (s : Sto) : Res W := match o with
  | some d => .ok (.d d) s
  | none => .bad
@[simp] theorem itemR_s {d : D} : itemR (some d) s = .ok (.d d) s := rfl
def signR (o : Option Nat) (s : Sto) : Res W := match o with
  | some c => .ok (.d (.str [c])) s
  | none => .bad
@[simp] theorem signR_s {c : Nat} : signR (some c) s = .ok (.d (.str [c])) s := rfl
def kBin2 (o : Bop) (x : W) : W → Sto → Res W := fun y s => binR o x y s
@[simp] theorem kBin2_ap {o : Bop} {x y : W} : kBin2 o x y s = binR o x y s := rfl
def kBin1 (gl : Nat → D) (Φ : Nat → Option Fn) (o : Bop) (b : C) (δ : Env) : W → Sto → Res W := fun x s => (evC gl Φ b δ s).bind (kBin2 o x)
@[simp] theorem kBin1_ap {o : Bop} {b : C} {x : W} : kBin1 gl Φ o b δ x s = (evC gl Φ b δ s).bind (kBin2 o x) := rfl
def kNeg : W → Sto → Res W := fun x s => match x with | .d (.int i) => pureR (.int (-i)) s | _ => .bad
@[simp] theorem kNeg_ap {i : Int} : kNeg (.d (.int i)) s = .ok (.d (.int (-i))) s := rfl
def kNot : W → Sto → Res W := fun x s => match x with | .d (.bl b) => blR (!b) s | _ => .bad
@[simp] theorem kNot_ap {b : Bool} : kNot (.d (.bl b)) s = .ok (.d (.bl (!b))) s := rfl
def kBool : W → Sto → Res W := fun y s => match y with | .d (.bl c) => blR c s | _ => .bad
@[simp] theorem kBool_ap {b : Bool} : kBool (.d (.bl b)) s = .ok (.d (.bl b)) s := rfl
def kAnd (gl : Nat → D) (Φ : Nat → Option Fn) (b : C) (δ : Env) : W → Sto → Res W := fun x s => match x with
  | .d (.bl true) => (evC gl Φ b δ s).bind kBool
  | .d (.bl false) => blR false s
  | _ => .bad
@[simp] theorem kAnd_t {b : C} : kAnd gl Φ b δ (.d (.bl true)) s = (evC gl Φ b δ s).bind kBool := rfl
@[simp] theorem kAnd_f {b : C} : kAnd gl Φ b δ (.d (.bl false)) s = .ok (.d (.bl false)) s := rfl
def kOr (gl : Nat → D) (Φ : Nat → Option Fn) (b : C) (δ : Env) : W → Sto → Res W := fun x s => match x with
  | .d (.bl false) => (evC gl Φ b δ s).bind kBool
  | .d (.bl true) => blR true s
  | _ => .bad
@[simp] theorem kOr_f {b : C} : kOr gl Φ b δ (.d (.bl false)) s = (evC gl Φ b δ s).bind kBool := rfl
@[simp] theorem kOr_t {b : C} : kOr gl Φ b δ (.d (.bl true)) s = .ok (.d (.bl true)) s := rfl
def kCmp2 (o : Cop) (x : W) : W → Sto → Res W := fun y s => cmpR o x y s
@[simp] theorem kCmp2_ap {o : Cop} {x y : W} : kCmp2 o x y s = cmpR o x y s := rfl
def kCmp1 (gl : Nat → D) (Φ : Nat → Option Fn) (o : Cop) (b : C) (δ : Env) : W → Sto → Res W := fun x s => (peek b δ s (evC gl Φ b δ s)).bind (kCmp2 o x)
@[simp] theorem kCmp1_ap {o : Cop} {b : C} {x : W} : kCmp1 gl Φ o b δ x s = (peek b δ s (evC gl Φ b δ s)).bind (kCmp2 o x) := rfl
def kCh3 (gl : Nat → D) (Φ : Nat → Option Fn) (p : Cop) (c : C) (δ : Env) (y : W) : W → Sto → Res W := fun z s => match z with
  | .d (.bl true) => (evC gl Φ c δ s).bind (kCmp2 p y)
  | .d (.bl false) => blR false s
  | _ => .bad
@[simp] theorem kCh3_t {p : Cop} {c : C} {y : W} : kCh3 gl Φ p c δ y (.d (.bl true)) s = (evC gl Φ c δ s).bind (kCmp2 p y) := rfl
@[simp] theorem kCh3_f {p : Cop} {c : C} {y : W} : kCh3 gl Φ p c δ y (.d (.bl false)) s = .ok (.d (.bl false)) s := rfl
def kCh2 (gl : Nat → D) (Φ : Nat → Option Fn) (o p : Cop) (c : C) (δ : Env) (x : W) : W → Sto → Res W := fun y s => (cmpR o x y s).bind (kCh3 gl Φ p c δ y)
@[simp] theorem kCh2_ap {o p : Cop} {c : C} {x y : W} : kCh2 gl Φ o p c δ x y s = (cmpR o x y s).bind (kCh3 gl Φ p c δ y) := rfl
def kCh1 (gl : Nat → D) (Φ : Nat → Option Fn) (o p : Cop) (b c : C) (δ : Env) : W → Sto → Res W := fun x s => (evC gl Φ b δ s).bind (kCh2 gl Φ o p c δ x)
@[simp] theorem kCh1_ap {o p : Cop} {b c : C} {x : W} : kCh1 gl Φ o p b c δ x s = (evC gl Φ b δ s).bind (kCh2 gl Φ o p c δ x) := rfl
def kIfe (gl : Nat → D) (Φ : Nat → Option Fn) (a b : C) (δ : Env) : W → Sto → Res W := fun x s => match truth x with
  | some true => evC gl Φ a δ s
  | some false => evC gl Φ b δ s
  | none => .bad
@[simp] theorem kIfe_t {a b : C} : kIfe gl Φ a b δ (.d (.bl true)) s = evC gl Φ a δ s := rfl
@[simp] theorem kIfe_f {a b : C} : kIfe gl Φ a b δ (.d (.bl false)) s = evC gl Φ b δ s := rfl
@[simp] theorem kIfe_i {a b : C} {i : Int} : kIfe gl Φ a b δ (.d (.int i)) s = kIfe gl Φ a b δ (.d (.bl (i != 0))) s := rfl
def kTup : List D → Sto → Res W := fun ds s => if ds.length ≤ lim then pureR (.tup ds) s else .bad
@[simp] theorem kTup_ap {ds : List D} : kTup ds s = if ds.length ≤ lim then .ok (.d (.tup ds)) s else .bad := rfl
def kLst : List D → Sto → Res W := fun ds s => if ds.length ≤ lim then pureR (.lst ds) s else .bad
@[simp] theorem kLst_ap {ds : List D} : kLst ds s = if ds.length ≤ lim then .ok (.d (.lst ds)) s else .bad := rfl
def kIx2 (x : W) : W → Sto → Res W := fun y s => ixR x y s
@[simp] theorem kIx2_ap {x y : W} : kIx2 x y s = ixR x y s := rfl
def kIx1 (gl : Nat → D) (Φ : Nat → Option Fn) (i : C) (δ : Env) : W → Sto → Res W := fun x s => (evC gl Φ i δ s).bind (kIx2 x)
@[simp] theorem kIx1_ap {i : C} {x : W} : kIx1 gl Φ i δ x s = (evC gl Φ i δ s).bind (kIx2 x) := rfl
def kSl3 (x : W) (l : Option Int) : Option Int → Sto → Res W := fun h s => slR x l h s
@[simp] theorem kSl3_ap {x : W} {l h : Option Int} : kSl3 x l h s = slR x l h s := rfl
def kSl2 (gl : Nat → D) (Φ : Nat → Option Fn) (hi : C) (δ : Env) (x : W) : Option Int → Sto → Res W := fun l s => (part hi s (evC gl Φ hi δ s)).bind (kSl3 x l)
@[simp] theorem kSl2_ap {hi : C} {x : W} {l : Option Int} : kSl2 gl Φ hi δ x l s = (part hi s (evC gl Φ hi δ s)).bind (kSl3 x l) := rfl
def kSl1 (gl : Nat → D) (Φ : Nat → Option Fn) (lo hi : C) (δ : Env) : W → Sto → Res W := fun x s => (part lo s (evC gl Φ lo δ s)).bind (kSl2 gl Φ hi δ x)
@[simp] theorem kSl1_ap {lo hi : C} {x : W} : kSl1 gl Φ lo hi δ x s = (part lo s (evC gl Φ lo δ s)).bind (kSl2 gl Φ hi δ x) := rfl
def kPart : W → Sto → Res (Option Int) := fun x s => match x with | .d (.int i) => .ok (some i) s | _ => .bad
@[simp] theorem kPart_ap {i : Int} : kPart (.d (.int i)) s = .ok (some i) s := rfl
def kRev : W → Sto → Res W := fun x s => match x with
  | .d (.tup ds) => pureR (.tup ds.reverse) s
  | .d (.lst ds) => pureR (.lst ds.reverse) s
  | _ => .bad
def kLrg : W → Sto → Res W := fun x s => match x with
  | .d (.int n) => if rngOk 0 n then pureR (.lst (rangeD 0 n)) s else .bad
  | _ => .bad
@[simp] theorem kLrg_ap {n : Int} : kLrg (.d (.int n)) s = if rngOk 0 n = true then .ok (.d (.lst (rangeD 0 n))) s else .bad := rfl
def kSome : W → Sto → Res (Option D) := fun x s => match x with | .d y => .ok (some y) s | _ => .bad
@[simp] theorem kSome_ap {d : D} : kSome (.d d) s = .ok (some d) s := rfl
def kCond (gl : Nat → D) (Φ : Nat → Option Fn) (elt : C) (δ : Env) : W → Sto → Res (Option D) := fun c s => match truth c with
  | some true => (evC gl Φ elt δ s).bind kSome
  | some false => .ok none s
  | none => .bad
@[simp] theorem kCond_t {e : C} : kCond gl Φ e δ (.d (.bl true)) s = (evC gl Φ e δ s).bind kSome := rfl
@[simp] theorem kCond_f {e : C} : kCond gl Φ e δ (.d (.bl false)) s = .ok none s := rfl
/-- a comprehension's turn -/
def lcT (gl : Nat → D) (Φ : Nat → Option Fn) (own : List Nat) (tup : Bool) (cond elt : C) (δ : Env) : D → Sto → Res (Option D) := fun d s => match setTg tup own d δ with
  | some δ' => (evC gl Φ cond δ' s).bind (kCond gl Φ elt δ')
  | none => .bad
def lcR (gl : Nat → D) (Φ : Nat → Option Fn) (cond elt : C) (o : Option Env) (s : Sto) : Res (Option D) := match o with
  | some δ' => (evC gl Φ cond δ' s).bind (kCond gl Φ elt δ')
  | none => .bad
@[simp] theorem lcR_s {cond elt : C} : lcR gl Φ cond elt (some δ) s = (evC gl Φ cond δ s).bind (kCond gl Φ elt δ) := rfl
@[simp] theorem lcT_ap {own : List Nat} {tup : Bool} {cond elt : C} {d : D} : lcT gl Φ own tup cond elt δ d s = lcR gl Φ cond elt (setTg tup own d δ) s := rfl
def kMk : List D → Sto → Res W := fun ys s => pureR (.lst ys) s
@[simp] theorem kMk_ap {ds : List D} : kMk ds s = .ok (.d (.lst ds)) s := rfl
def kLc (gl : Nat → D) (Φ : Nat → Option Fn) (own : List Nat) (tup : Bool) (cond elt : C) (δ : Env) : List D → Sto → Res W := fun ds s => (noExc (lcGo (lcT gl Φ own tup cond elt δ) ds [] s)).bind kMk
@[simp] theorem kLc_ap {own : List Nat} {tup : Bool} {cond elt : C} {ds : List D} : kLc gl Φ own tup cond elt δ ds s = (noExc (lcGo (lcT gl Φ own tup cond elt δ) ds [] s)).bind kMk := rfl
def kDc2 (k : W) : W → Sto → Res (D × D) := fun v s => match k, v with | .d k, .d v => .ok (k, v) s | _, _ => .bad
@[simp] theorem kDc2_ap {k v : D} : kDc2 (.d k) (.d v) s = .ok (k, v) s := rfl
def kDc1 (gl : Nat → D) (Φ : Nat → Option Fn) (val : C) (δ : Env) : W → Sto → Res (D × D) := fun k s => (evC gl Φ val δ s).bind (kDc2 k)
@[simp] theorem kDc1_ap {val : C} {k : W} : kDc1 gl Φ val δ k s = (evC gl Φ val δ s).bind (kDc2 k) := rfl
def dcR (gl : Nat → D) (Φ : Nat → Option Fn) (key val : C) (o : Option Env) (s : Sto) : Res (D × D) := match o with
  | some δ' => (evC gl Φ key δ' s).bind (kDc1 gl Φ val δ')
  | none => .bad
@[simp] theorem dcR_s {key val : C} : dcR gl Φ key val (some δ) s = (evC gl Φ key δ s).bind (kDc1 gl Φ val δ) := rfl
def dcF (gl : Nat → D) (Φ : Nat → Option Fn) (own : List Nat) (key val : C) (δ : Env) : D → Sto → Res (D × D) := fun d s => dcR gl Φ key val (setTg true own d δ) s
@[simp] theorem dcF_ap {own : List Nat} {key val : C} {d : D} : dcF gl Φ own key val δ d s = dcR gl Φ key val (setTg true own d δ) s := rfl
def kDct : List (Int × D) → Sto → Res W := fun kvs s => .ok (.dci kvs) s
@[simp] theorem kDct_ap {kvs : List (Int × D)} : kDct kvs s = .ok (.dci kvs) s := rfl
def kDc (gl : Nat → D) (Φ : Nat → Option Fn) (own : List Nat) (key val : C) (δ : Env) : List D → Sto → Res W := fun ds s => (noExc (dcGo (dcF gl Φ own key val δ) ds [] s)).bind kDct
@[simp] theorem kDc_ap {own : List Nat} {key val : C} {ds : List D} : kDc gl Φ own key val δ ds s = (noExc (dcGo (dcF gl Φ own key val δ) ds [] s)).bind kDct := rfl
def callR (o : Option Fn) (ws : List W) (s : Sto) : Res W := match o with
  | some φ => φ ws s
  | none => .bad
@[simp] theorem callR_s {φ : Fn} {ws : List W} : callR (some φ) ws s = φ ws s := rfl
def kCall (Φ : Nat → Option Fn) (f : Nat) : List W → Sto → Res W := fun ws s => callR (Φ f) ws s
@[simp] theorem kCall_ap {f : Nat} {ws : List W} : kCall Φ f ws s = callR (Φ f) ws s := rfl
def kB1 (f : B1) : W → Sto → Res W := fun x s => b1R f x s
@[simp] theorem kB1_ap {f : B1} {x : W} : kB1 f x s = b1R f x s := rfl
def kB2b (f : B2) (x : W) : W → Sto → Res W := fun y s => b2R f x y s
@[simp] theorem kB2b_ap {f : B2} {x y : W} : kB2b f x y s = b2R f x y s := rfl
def kB2a (gl : Nat → D) (Φ : Nat → Option Fn) (f : B2) (b : C) (δ : Env) : W → Sto → Res W := fun x s => if fstOk f x = true then (evC gl Φ b δ s).bind (kB2b f x) else .bad
@[simp] theorem kB2a_min {b : C} {x : W} : kB2a gl Φ .min2 b δ x s = (evC gl Φ b δ s).bind (kB2b .min2 x) := rfl
@[simp] theorem kB2a_max {b : C} {x : W} : kB2a gl Φ .max2 b δ x s = (evC gl Φ b δ s).bind (kB2b .max2 x) := rfl
@[simp] theorem kB2a_indexT {b : C} {ds : List D} : kB2a gl Φ .index b δ (.d (.tup ds)) s = (evC gl Φ b δ s).bind (kB2b .index (.d (.tup ds))) := rfl
@[simp] theorem kB2a_index {b : C} {ds : List D} : kB2a gl Φ .index b δ (.d (.lst ds)) s = (evC gl Φ b δ s).bind (kB2b .index (.d (.lst ds))) := rfl
def kIsi (t : Ty) : W → Sto → Res W := fun x s => match x with | .d d => blR (isiD d t) s | _ => .bad
@[simp] theorem kIsi_ap {t : Ty} {d : D} : kIsi t (.d d) s = .ok (.d (.bl (isiD d t))) s := rfl
def kDs2 (d : D) : List D → Sto → Res (List D) := fun ds s => .ok (d :: ds) s
@[simp] theorem kDs2_ap {d : D} {ds : List D} : kDs2 d ds s = .ok (d :: ds) s := rfl
def kDs1 (gl : Nat → D) (Φ : Nat → Option Fn) (cs : Cs) (δ : Env) : W → Sto → Res (List D) := fun x s => match x with
  | .d d => (evDs gl Φ cs δ s).bind (kDs2 d)
  | _ => .bad
@[simp] theorem kDs1_ap {cs : Cs} {d : D} : kDs1 gl Φ cs δ (.d d) s = (evDs gl Φ cs δ s).bind (kDs2 d) := rfl
def kWs2 (x : W) : List W → Sto → Res (List W) := fun xs s => .ok (x :: xs) s
@[simp] theorem kWs2_ap {x : W} {xs : List W} : kWs2 x xs s = .ok (x :: xs) s := rfl
def kWs1 (gl : Nat → D) (Φ : Nat → Option Fn) (cs : Cs) (δ : Env) : W → Sto → Res (List W) := fun x s => (evWs gl Φ cs δ s).bind (kWs2 x)
@[simp] theorem kWs1_ap {cs : Cs} {x : W} : kWs1 gl Φ cs δ x s = (evWs gl Φ cs δ s).bind (kWs2 x) := rfl
def kItE : W → Sto → Res (List D) := fun x s => match x with
    | .d (.tup ds) => .ok ds s
    | .d (.lst ds) => .ok ds s
    | .d (.str x) => .ok (x.map fun c => .str [c]) s
    | .dct kvs => .ok (kvs.map (·.1)) s
    | _ => .bad
@[simp] theorem kItE_d {kvs : List (D × D)} : kItE (.dct kvs) s = .ok (kvs.map (·.1)) s := rfl
@[simp] theorem kItE_t {ds : List D} : kItE (.d (.tup ds)) s = .ok ds s := rfl
@[simp] theorem kItE_l {ds : List D} : kItE (.d (.lst ds)) s = .ok ds s := rfl
@[simp] theorem kItE_s {x : List Nat} : kItE (.d (.str x)) s = .ok (x.map fun c => .str [c]) s := rfl
def kItR : W → Sto → Res (List D) := fun x s => match x with
    | .d (.int n) => if rngOk 0 n then .ok (rangeD 0 n) s else .bad
    | _ => .bad
@[simp] theorem kItR_ap {n : Int} : kItR (.d (.int n)) s = if rngOk 0 n = true then .ok (rangeD 0 n) s else .bad := rfl
def kItR2b (x : W) : W → Sto → Res (List D) := fun y s => match x, y with
    | .d (.int m), .d (.int n) => if rngOk m n then .ok (rangeD m n) s else .bad
    | _, _ => .bad
@[simp] theorem kItR2b_ap {m n : Int} : kItR2b (.d (.int m)) (.d (.int n)) s = if rngOk m n = true then .ok (rangeD m n) s else .bad := rfl
def kItR2a (gl : Nat → D) (Φ : Nat → Option Fn) (b : C) (δ : Env) : W → Sto → Res (List D) := fun x s => (evC gl Φ b δ s).bind (kItR2b x)
@[simp] theorem kItR2a_ap {b : C} {x : W} : kItR2a gl Φ b δ x s = (evC gl Φ b δ s).bind (kItR2b x) := rfl
def kItN : W → Sto → Res (List D) := fun x s => match itemsOf x with
    | some ds => .ok (enumD 0 ds) s
    | none => .bad
@[simp] theorem kItN_t {ds : List D} : kItN (.d (.tup ds)) s = .ok (enumD 0 ds) s := rfl
@[simp] theorem kItN_l {ds : List D} : kItN (.d (.lst ds)) s = .ok (enumD 0 ds) s := rfl
def kItV : W → Sto → Res (List D) := fun x s => match itemsOf x with
    | some ds => .ok ds.reverse s
    | none => .bad
@[simp] theorem kItV_t {ds : List D} : kItV (.d (.tup ds)) s = .ok ds.reverse s := rfl
@[simp] theorem kItV_l {ds : List D} : kItV (.d (.lst ds)) s = .ok ds.reverse s := rfl
def kItW : W → Sto → Res (List D) := fun x s => match x with
    | .d (.int n) => if rngOk 0 n then .ok (rangeD 0 n).reverse s else .bad
    | _ => .bad
@[simp] theorem kItW_ap {n : Int} : kItW (.d (.int n)) s = if rngOk 0 n = true then .ok (rangeD 0 n).reverse s else .bad := rfl
def kItZb (x : W) : W → Sto → Res (List D) := fun y s => match x, y with
    | .d (.lst xs), .d (.lst ys) => .ok (zipD xs ys) s
    | _, _ => .bad
@[simp] theorem kItZb_ap {xs ys : List D} : kItZb (.d (.lst xs)) (.d (.lst ys)) s = .ok (zipD xs ys) s := rfl
def kItZa (gl : Nat → D) (Φ : Nat → Option Fn) (b : C) (δ : Env) : W → Sto → Res (List D) := fun x s => (evC gl Φ b δ s).bind (kItZb x)
@[simp] theorem kItZa_ap {b : C} {x : W} : kItZa gl Φ b δ x s = (evC gl Φ b δ s).bind (kItZb x) := rfl
/-! ### expressions -/
@[simp] theorem evC_v {i : Nat} : evC gl Φ (.v i) δ s = slotR δ[i]? s := by rw [evC] <;> rfl
@[simp] theorem evC_k {d : D} : evC gl Φ (.k d) δ s = .ok (.d d) s := by rw [evC]; rfl
@[simp] theorem evC_gl {n : Nat} : evC gl Φ (.gl n) δ s = .ok (.d (gl n)) s := by rw [evC]; rfl
@[simp] theorem evC_bin {o : Bop} {a b : C} : evC gl Φ (.bin o a b) δ s = (evC gl Φ a δ s).bind (kBin1 gl Φ o b δ) := by rw [evC] <;> rfl
@[simp] theorem evC_neg {a : C} : evC gl Φ (.neg a) δ s = (evC gl Φ a δ s).bind kNeg := by rw [evC] <;> rfl
@[simp] theorem evC_not {a : C} : evC gl Φ (.not_ a) δ s = (evC gl Φ a δ s).bind kNot := by rw [evC] <;> rfl
@[simp] theorem evC_and {a b : C} : evC gl Φ (.and_ a b) δ s = (evC gl Φ a δ s).bind (kAnd gl Φ b δ) := by rw [evC] <;> rfl
@[simp] theorem evC_or {a b : C} : evC gl Φ (.or_ a b) δ s = (evC gl Φ a δ s).bind (kOr gl Φ b δ) := by rw [evC] <;> rfl
@[simp] theorem evC_cmp {o : Cop} {a b : C} : evC gl Φ (.cmp o a b) δ s = (peek a δ s (evC gl Φ a δ s)).bind (kCmp1 gl Φ o b δ) := by rw [evC] <;> rfl
@[simp] theorem evC_chain {o p : Cop} {a b c : C} : evC gl Φ (.chain o p a b c) δ s = (evC gl Φ a δ s).bind (kCh1 gl Φ o p b c δ) := by rw [evC] <;> rfl
@[simp] theorem evC_ife {t a b : C} : evC gl Φ (.ife t a b) δ s = (evC gl Φ t δ s).bind (kIfe gl Φ a b δ) := by rw [evC] <;> rfl
@[simp] theorem evC_tup {es : Cs} : evC gl Φ (.tup es) δ s = (evDs gl Φ es δ s).bind kTup := by rw [evC] <;> rfl
@[simp] theorem evC_lst {es : Cs} : evC gl Φ (.lst es) δ s = (evDs gl Φ es δ s).bind kLst := by rw [evC] <;> rfl
@[simp] theorem evC_ix {a i : C} : evC gl Φ (.ix a i) δ s = (peek a δ s (evC gl Φ a δ s)).bind (kIx1 gl Φ i δ) := by rw [evC] <;> rfl
@[simp] theorem evC_sl {a lo hi : C} : evC gl Φ (.sl a lo hi) δ s = (evC gl Φ a δ s).bind (kSl1 gl Φ lo hi δ) := by rw [evC] <;> rfl
@[simp] theorem evC_rev {a : C} : evC gl Φ (.rev a) δ s = (evC gl Φ a δ s).bind kRev := by rw [evC] <;> rfl
@[simp] theorem evC_lrg {a : C} : evC gl Φ (.lrg a) δ s = (evC gl Φ a δ s).bind kLrg := by rw [evC] <;> rfl
@[simp] theorem evC_lc' {is : List Nat} {tup : Bool} {it : It} {cond elt : C} : evC gl Φ (.lc is tup it cond elt) δ s = (evIt gl Φ it δ s).bind (kLc gl Φ is tup cond elt δ) := by rw [evC] <;> rfl
@[simp] theorem evC_dc' {is : List Nat} {it : It} {key val : C} : evC gl Φ (.dc is it key val) δ s = (evIt gl Φ it δ s).bind (kDc gl Φ is key val δ) := by rw [evC] <;> rfl
@[simp] theorem evC_call {f : Nat} {es : Cs} : evC gl Φ (.call f es) δ s = (evWs gl Φ es δ s).bind (kCall Φ f) := by rw [evC] <;> rfl
@[simp] theorem evC_b1 {f : B1} {a : C} : evC gl Φ (.b1 f a) δ s = (peek a δ s (evC gl Φ a δ s)).bind (kB1 f) := by rw [evC] <;> rfl
@[simp] theorem evC_b2 {f : B2} {a b : C} : evC gl Φ (.b2 f a b) δ s = (evC gl Φ a δ s).bind (kB2a gl Φ f b δ) := by rw [evC] <;> rfl
@[simp] theorem evC_isi {a : C} {t : Ty} : evC gl Φ (.isi a t) δ s = (evC gl Φ a δ s).bind (kIsi t) := by rw [evC] <;> rfl
@[simp] theorem evDs_nil : evDs gl Φ .nil δ s = .ok [] s := by rw [evDs] <;> rfl
@[simp] theorem evDs_cons {c : C} {cs : Cs} : evDs gl Φ (.cons c cs) δ s = (evC gl Φ c δ s).bind (kDs1 gl Φ cs δ) := by rw [evDs] <;> rfl
@[simp] theorem evWs_nil : evWs gl Φ .nil δ s = .ok [] s := by rw [evWs] <;> rfl
@[simp] theorem evWs_cons {c : C} {cs : Cs} : evWs gl Φ (.cons c cs) δ s = (evC gl Φ c δ s).bind (kWs1 gl Φ cs δ) := by rw [evWs] <;> rfl
@[simp] theorem evIt_e {a : C} : evIt gl Φ (.e a) δ s = (evC gl Φ a δ s).bind kItE := by rw [evIt] <;> rfl
def ownItR (o : Option Slot) (s : Sto) : Res (List D) := match o with
    | some (.own ds) => .ok ds s
    | some (.w (.d (.lst ds))) => .ok ds s
    | _ => .bad
@[simp] theorem ownItR_own {ds : List D} : ownItR (some (.own ds)) s = .ok ds s := rfl
@[simp] theorem ownItR_w {ds : List D} : ownItR (some (.w (.d (.lst ds)))) s = .ok ds s := rfl
@[simp] theorem evIt_p {i : Nat} : evIt gl Φ (.p i) δ s = ownItR δ[i]? s := by rw [evIt] <;> rfl
@[simp] theorem evIt_rng {a : C} : evIt gl Φ (.rng a) δ s = (evC gl Φ a δ s).bind kItR := by rw [evIt] <;> rfl
@[simp] theorem evIt_rng2 {a b : C} : evIt gl Φ (.rng2 a b) δ s = (evC gl Φ a δ s).bind (kItR2a gl Φ b δ) := by rw [evIt] <;> rfl
@[simp] theorem evIt_enum {a : C} : evIt gl Φ (.enum a) δ s = (evC gl Φ a δ s).bind kItN := by rw [evIt] <;> rfl
@[simp] theorem evIt_rev {a : C} : evIt gl Φ (.rev a) δ s = (evC gl Φ a δ s).bind kItV := by rw [evIt] <;> rfl
@[simp] theorem evIt_revr {a : C} : evIt gl Φ (.revr a) δ s = (evC gl Φ a δ s).bind kItW := by rw [evIt] <;> rfl
@[simp] theorem evIt_zip {a b : C} : evIt gl Φ (.zip a b) δ s = (evC gl Φ a δ s).bind (kItZa gl Φ b δ) := by rw [evIt] <;> rfl
/-! ### statements -/
noncomputable def contSs (gl : Nat → D) (Φ : Nat → Option Fn) (b : Ss) : Env → Sto → RS := fun δ s => evSs gl Φ b δ s
@[simp] theorem contSs_ap {b : Ss} : contSs gl Φ b δ s = evSs gl Φ b δ s := rfl
def envR (o : Option Env) (s : Sto) : RS := match o with
  | some δ => .nx δ s
  | none => .bad
@[simp] theorem envR_s : envR (some δ) s = .nx δ s := rfl
def sAsg (i : Nat) (δ : Env) : W → Sto → RS := fun w s => .nx (δ.set i (.w w)) s
@[simp] theorem sAsg_ap {i : Nat} {w : W} : sAsg i δ w s = .nx (δ.set i (.w w)) s := rfl
def sAsgo (i : Nat) (δ : Env) : W → Sto → RS := fun w s => match ownOf w with
    | some o => .nx (δ.set i o) s
    | none => .bad
@[simp] theorem sAsgo_ap {i : Nat} {ds : List D} : sAsgo i δ (.d (.lst ds)) s = .nx (δ.set i (.own ds)) s := rfl
def sUnp (is : List Nat) (δ : Env) : W → Sto → RS := fun w s => match w with
    | .d d => envR (setTg true is d δ) s
    | _ => .bad
@[simp] theorem sUnp_ap {is : List Nat} {ds : List D} : sUnp is δ (.d (.tup ds)) s = envR (setEach is ds δ) s := rfl
def sPar (is : List (Nat × Bool)) (δ : Env) : List W → Sto → RS := fun ws s => envR (setPar is ws δ) s
@[simp] theorem sPar_ap {is : List (Nat × Bool)} {ws : List W} : sPar is δ ws s = envR (setPar is ws δ) s := rfl
def sApp (i : Nat) (ds : List D) (δ : Env) : W → Sto → RS := fun w s => match w with
      | .d d => if ds.length < lim then .nx (δ.set i (.own (ds ++ [d]))) s else .bad
      | _ => .bad
@[simp] theorem sApp_ap {i : Nat} {ds : List D} {d : D} : sApp i ds δ (.d d) s = if ds.length < lim then .nx (δ.set i (.own (ds ++ [d]))) s else .bad := rfl
def appR (gl : Nat → D) (Φ : Nat → Option Fn) (i : Nat) (e : C) (δ : Env) (s : Sto) (o : Option Slot) : RS := match o with
  | some (.own ds) => (evC gl Φ e δ s).toS (sApp i ds δ)
  | _ => .bad
@[simp] theorem appR_own {i : Nat} {e : C} {ds : List D} : appR gl Φ i e δ s (some (.own ds)) = (evC gl Φ e δ s).toS (sApp i ds δ) := rfl
def setR (i : Nat) (ds : List D) (d : D) (δ : Env) (o : Option Nat) (s : Sto) : RS := match o with
  | some j => .nx (δ.set i (.own (ds.set j d))) s
  | none => .bad
@[simp] theorem setR_s {i j : Nat} {ds : List D} {d : D} : setR i ds d δ (some j) s = .nx (δ.set i (.own (ds.set j d))) s := rfl
def sSet2 (i : Nat) (ds : List D) (d : D) (δ : Env) : W → Sto → RS := fun x s => match x with
  | .d (.int n) => setR i ds d δ (place ds.length n) s
  | _ => .bad
@[simp] theorem sSet2_ap {i : Nat} {ds : List D} {d : D} {n : Int} : sSet2 i ds d δ (.d (.int n)) s = setR i ds d δ (place ds.length n) s := rfl
def set1R (gl : Nat → D) (Φ : Nat → Option Fn) (i : Nat) (ix : C) (δ : Env) (d : D) (o : Option Slot) (s : Sto) : RS := match o with
  | some (.own ds) => (evC gl Φ ix δ s).toS (sSet2 i ds d δ)
  | _ => .bad
@[simp] theorem set1R_own {i : Nat} {ix : C} {ds : List D} {d : D} : set1R gl Φ i ix δ d (some (.own ds)) s = (evC gl Φ ix δ s).toS (sSet2 i ds d δ) := rfl
def sSet1 (gl : Nat → D) (Φ : Nat → Option Fn) (i : Nat) (ix : C) (δ : Env) : W → Sto → RS := fun w s => match w with
  | .d d => set1R gl Φ i ix δ d δ[i]? s
  | _ => .bad
@[simp] theorem sSet1_ap {i : Nat} {ix : C} {d : D} : sSet1 gl Φ i ix δ (.d d) s = set1R gl Φ i ix δ d δ[i]? s := rfl
def sSetd2 (i : Nat) (kvs : List (D × D)) (d : D) (δ : Env) : W → Sto → RS := fun x s => match x with
  | .d k => if keyT k && decide (kvs.length < lim) then .nx (δ.set i (.ownd (putKV kvs k d))) s else .bad
  | _ => .bad
@[simp] theorem sSetd2_ap {i : Nat} {kvs : List (D × D)} {d k : D} : sSetd2 i kvs d δ (.d k) s = if keyT k && decide (kvs.length < lim) then .nx (δ.set i (.ownd (putKV kvs k d))) s else .bad := rfl
def setd1R (gl : Nat → D) (Φ : Nat → Option Fn) (i : Nat) (key : C) (δ : Env) (d : D) (o : Option Slot) (s : Sto) : RS := match o with
  | some (.ownd kvs) => (evC gl Φ key δ s).toS (sSetd2 i kvs d δ)
  | _ => .bad
@[simp] theorem setd1R_own {i : Nat} {key : C} {kvs : List (D × D)} {d : D} : setd1R gl Φ i key δ d (some (.ownd kvs)) s = (evC gl Φ key δ s).toS (sSetd2 i kvs d δ) := rfl
def sSetd1 (gl : Nat → D) (Φ : Nat → Option Fn) (i : Nat) (key : C) (δ : Env) : W → Sto → RS := fun w s => match w with
  | .d d => setd1R gl Φ i key δ d δ[i]? s
  | _ => .bad
@[simp] theorem sSetd1_ap {i : Nat} {key : C} {d : D} : sSetd1 gl Φ i key δ (.d d) s = setd1R gl Φ i key δ d δ[i]? s := rfl
def sDice (i n : Nat) (δ : Env) : W → Sto → RS := fun w s => match w, δ[i]?, s.dice with
    | .d (.int x), some (.w .dice), some (c, m) => if n = 0 then .nx δ { s with dice := some (x, m) } else if n = 1 then .nx δ { s with dice := some (c, x) } else .bad
    | _, _, _ => .bad
def sRet : W → Sto → RS := fun w s => .rt w s
@[simp] theorem sRet_ap {w : W} : sRet w s = .rt w s := rfl
noncomputable def sIfe (gl : Nat → D) (Φ : Nat → Option Fn) (a b : Ss) (δ : Env) : W → Sto → RS := fun w s => match truth w with
    | some true => evSs gl Φ a δ s
    | some false => evSs gl Φ b δ s
    | none => .bad
@[simp] theorem sIfe_t {a b : Ss} : sIfe gl Φ a b δ (.d (.bl true)) s = evSs gl Φ a δ s := rfl
@[simp] theorem sIfe_f {a b : Ss} : sIfe gl Φ a b δ (.d (.bl false)) s = evSs gl Φ b δ s := rfl
@[simp] theorem sIfe_i {a b : Ss} {i : Int} : sIfe gl Φ a b δ (.d (.int i)) s = sIfe gl Φ a b δ (.d (.bl (i != 0))) s := rfl
def sFor (tup : Bool) (tg : List Nat) (f : Env → Sto → RS) (δ : Env) : List D → Sto → RS := fun ds s => forGo tup tg f ds δ s
@[simp] theorem sFor_ap {tup : Bool} {tg : List Nat} {f : Env → Sto → RS} {ds : List D} : sFor tup tg f δ ds s = forGo tup tg f ds δ s := rfl
def sEx (δ : Env) : W → Sto → RS := fun _ s => .nx δ s
@[simp] theorem sEx_ap {w : W} : sEx δ w s = .nx δ s := rfl
def frzR (i : Nat) (δ : Env) (s : Sto) (o : Option Slot) : RS := match o with
  | some (.ownd kvs) => .nx (δ.set i (.w (.dct kvs))) s
  | some (.own ds) => .nx (δ.set i (.w (.d (.lst ds)))) s
  | _ => .nx δ s
@[simp] theorem frzR_own {i : Nat} {ds : List D} : frzR i δ s (some (.own ds)) = .nx (δ.set i (.w (.d (.lst ds)))) s := rfl
@[simp] theorem frzR_ownd {i : Nat} {kvs : List (D × D)} : frzR i δ s (some (.ownd kvs)) = .nx (δ.set i (.w (.dct kvs))) s := rfl
@[simp] theorem frzR_w {i : Nat} {w : W} : frzR i δ s (some (.w w)) = .nx δ s := rfl
@[simp] theorem frzR_no {i : Nat} : frzR i δ s (some .no) = .nx δ s := rfl
@[simp] theorem evS_asg {i : Nat} {e : C} : evS gl Φ (.asg i e) δ s = (evC gl Φ e δ s).toS (sAsg i δ) := by rw [evS] <;> rfl
@[simp] theorem evS_asgo {i : Nat} {e : C} : evS gl Φ (.asgo i e) δ s = (evC gl Φ e δ s).toS (sAsgo i δ) := by rw [evS] <;> rfl
@[simp] theorem evS_newd {i : Nat} : evS gl Φ (.newd i) δ s = .nx (δ.set i (.ownd [])) s := by rw [evS] <;> rfl
@[simp] theorem evS_unp {is : List Nat} {e : C} : evS gl Φ (.unp is e) δ s = (evC gl Φ e δ s).toS (sUnp is δ) := by rw [evS] <;> rfl
@[simp] theorem evS_par {is : List (Nat × Bool)} {es : Cs} : evS gl Φ (.par is es) δ s = (evWs gl Φ es δ s).toS (sPar is δ) := by rw [evS] <;> rfl
@[simp] theorem evS_app {i : Nat} {e : C} : evS gl Φ (.app i e) δ s = appR gl Φ i e δ s δ[i]? := by rw [evS] <;> rfl
@[simp] theorem evS_seti {i : Nat} {ix e : C} : evS gl Φ (.seti i ix e) δ s = (evC gl Φ e δ s).toS (sSet1 gl Φ i ix δ) := by
  rw [evS]
  congr 1
  funext w s
  cases w with
  | d d =>
    show _ = set1R gl Φ i ix δ d δ[i]? s
    cases δ[i]? with
    | none => rfl
    | some o => cases o <;> rfl
  | _ => rfl
@[simp] theorem evS_setd {i : Nat} {key e : C} : evS gl Φ (.setd i key e) δ s = (evC gl Φ e δ s).toS (sSetd1 gl Φ i key δ) := by
  rw [evS]
  congr 1
  funext w s
  cases w with
  | d d =>
    show _ = setd1R gl Φ i key δ d δ[i]? s
    cases δ[i]? with
    | none => rfl
    | some o => cases o <;> rfl
  | _ => rfl
@[simp] theorem evS_setdice {i n : Nat} {e : C} : evS gl Φ (.setdice i n e) δ s = (evC gl Φ e δ s).toS (sDice i n δ) := by rw [evS] <;> rfl
@[simp] theorem evS_ret {e : C} : evS gl Φ (.ret e) δ s = (evC gl Φ e δ s).toS sRet := by rw [evS] <;> rfl
@[simp] theorem evS_retn : evS gl Φ .retn δ s = .rt (.d .non) s := by rw [evS] <;> rfl
@[simp] theorem evS_ife {t : C} {a b : Ss} : evS gl Φ (.ife t a b) δ s = (evC gl Φ t δ s).toS (sIfe gl Φ a b δ) := by rw [evS] <;> rfl
@[simp] theorem evS_for {tup : Bool} {tg : List Nat} {it : It} {body : Ss} : evS gl Φ (.for_ tup tg it body) δ s = (evIt gl Φ it δ s).toS (sFor tup tg (contSs gl Φ body) δ) := by rw [evS] <;> rfl
theorem evS_while {t : C} {body : Ss} : evS gl Φ (.while_ t body) δ s = whS (fun δ s => evC gl Φ t δ s) (fun δ s => evSs gl Φ body δ s) δ s := by rw [evS] <;> rfl
@[simp] theorem evS_ex {e : C} : evS gl Φ (.ex e) δ s = (evC gl Φ e δ s).toS (sEx δ) := by rw [evS] <;> rfl
@[simp] theorem evS_pass : evS gl Φ .pass δ s = .nx δ s := by rw [evS] <;> rfl
@[simp] theorem evS_raise {c : Nat} : evS gl Φ (.raise c) δ s = .exc c s := by rw [evS] <;> rfl
@[simp] theorem evS_frz {i : Nat} : evS gl Φ (.frz i) δ s = frzR i δ s δ[i]? := by
  rw [evS]
  unfold freeze frzR
  cases δ[i]? with
  | none => rfl
  | some o => cases o <;> rfl
@[simp] theorem evSs_nil : evSs gl Φ .nil δ s = .nx δ s := by rw [evSs] <;> rfl
@[simp] theorem evSs_cons {a : S} {b : Ss} : evSs gl Φ (.cons a b) δ s = (evS gl Φ a δ s).then (contSs gl Φ b) := by rw [evSs] <;> rfl
/-- a call of a def -/
def outR : RS → Res W
  | .nx _ s => .ok (.d .non) s
  | .rt w s => .ok w s
  | .exc c s => .exc c s
  | .bad => .bad
@[simp] theorem out_nx : outR (.nx δ s) = .ok (.d .non) s := rfl
@[simp] theorem out_rt {w : W} : outR (.rt w s) = .ok w s := rfl
@[simp] theorem out_exc {c : Nat} : outR (.exc c s) = .exc c s := rfl
theorem evF_eq {c : Code} {ws : List W} (h : ws.length = c.pars) : evF gl Φ c ws s = outR (evSs gl Φ c.body (ws.map Slot.w ++ List.replicate (c.names - c.pars) Slot.no) s) := by
  unfold evF
  rw [if_pos h]
  rfl
/-! ### read in passing, parts, targets -/
@[simp] theorem peek_v {i : Nat} {r : Res W} : peek (.v i) δ s r = peekR δ[i]? s r := rfl
@[simp] theorem peek_k {d : D} {r : Res W} : peek (.k d) δ s r = r := rfl
@[simp] theorem peek_gl {n : Nat} {r : Res W} : peek (.gl n) δ s r = r := rfl
@[simp] theorem peek_bin {o : Bop} {a b : C} {r : Res W} : peek (.bin o a b) δ s r = r := rfl
@[simp] theorem peek_neg {a : C} {r : Res W} : peek (.neg a) δ s r = r := rfl
@[simp] theorem peek_ife {t a b : C} {r : Res W} : peek (.ife t a b) δ s r = r := rfl
@[simp] theorem peek_tup {es : Cs} {r : Res W} : peek (.tup es) δ s r = r := rfl
@[simp] theorem peek_lst {es : Cs} {r : Res W} : peek (.lst es) δ s r = r := rfl
@[simp] theorem peek_ix {a i : C} {r : Res W} : peek (.ix a i) δ s r = r := rfl
@[simp] theorem peek_sl {a l h : C} {r : Res W} : peek (.sl a l h) δ s r = r := rfl
@[simp] theorem peek_lrg {a : C} {r : Res W} : peek (.lrg a) δ s r = r := rfl
@[simp] theorem peek_rev {a : C} {r : Res W} : peek (.rev a) δ s r = r := rfl
@[simp] theorem peek_lc {is : List Nat} {tup : Bool} {it : It} {c e : C} {r : Res W} : peek (.lc is tup it c e) δ s r = r := rfl
@[simp] theorem peek_call {f : Nat} {es : Cs} {r : Res W} : peek (.call f es) δ s r = r := rfl
@[simp] theorem peek_b1 {f : B1} {a : C} {r : Res W} : peek (.b1 f a) δ s r = r := rfl
@[simp] theorem peek_b2 {f : B2} {a b : C} {r : Res W} : peek (.b2 f a b) δ s r = r := rfl
@[simp] theorem peek_cmp {o : Cop} {a b : C} {r : Res W} : peek (.cmp o a b) δ s r = r := rfl
@[simp] theorem peek_and {a b : C} {r : Res W} : peek (.and_ a b) δ s r = r := rfl
@[simp] theorem peek_or {a b : C} {r : Res W} : peek (.or_ a b) δ s r = r := rfl
@[simp] theorem peek_not {a : C} {r : Res W} : peek (.not_ a) δ s r = r := rfl
@[simp] theorem peek_chain {o p : Cop} {a b c : C} {r : Res W} : peek (.chain o p a b c) δ s r = r := rfl
@[simp] theorem peek_isi {a : C} {t : Ty} {r : Res W} : peek (.isi a t) δ s r = r := rfl
@[simp] theorem part_no {r : Res W} : part .nopart s r = .ok none s := rfl
@[simp] theorem part_k {d : D} {r : Res W} : part (.k d) s r = r.bind kPart := rfl
@[simp] theorem part_v {i : Nat} {r : Res W} : part (.v i) s r = r.bind kPart := rfl
@[simp] theorem part_bin {o : Bop} {a b : C} {r : Res W} : part (.bin o a b) s r = r.bind kPart := rfl
@[simp] theorem part_neg {a : C} {r : Res W} : part (.neg a) s r = r.bind kPart := rfl
@[simp] theorem setEach_nil : setEach [] [] δ = some δ := rfl
@[simp] theorem setEach_cons {i : Nat} {is : List Nat} {d : D} {ds : List D} : setEach (i :: is) (d :: ds) δ = setEach is ds (δ.set i (.w (.d d))) := rfl
@[simp] theorem setTg_one {i : Nat} {d : D} : setTg false [i] d δ = some (δ.set i (.w (.d d))) := rfl
@[simp] theorem setTg_tup {is : List Nat} {ds : List D} : setTg true is (.tup ds) δ = setEach is ds δ := rfl
@[simp] theorem ownOf_lst {ds : List D} : ownOf (.d (.lst ds)) = some (.own ds) := rfl
@[simp] theorem setPar_nil : setPar [] [] δ = some δ := rfl
@[simp] theorem setPar_no {i : Nat} {is : List (Nat × Bool)} {w : W} {ws : List W} : setPar ((i, false) :: is) (w :: ws) δ = setPar is ws (δ.set i (.w w)) := rfl
@[simp] theorem setPar_own {i : Nat} {is : List (Nat × Bool)} {ds : List D} {ws : List W} : setPar ((i, true) :: is) (.d (.lst ds) :: ws) δ = setPar is ws (δ.set i (.own ds)) := rfl
@[simp] theorem itemsOf_tup {ds : List D} : itemsOf (.d (.tup ds)) = some ds := rfl
@[simp] theorem itemsOf_lst {ds : List D} : itemsOf (.d (.lst ds)) = some ds := rfl
@[simp] theorem truth_int {i : Int} : truth (.d (.int i)) = some (i != 0) := rfl
@[simp] theorem sl_tup {ds : List D} {l h : Option Int} : slR (.d (.tup ds)) l h s = .ok (.d (.tup (cut ds l h))) s := rfl
@[simp] theorem sl_lst {ds : List D} {l h : Option Int} : slR (.d (.lst ds)) l h s = .ok (.d (.lst (cut ds l h))) s := rfl
@[simp] theorem sl_str {x : List Nat} {l h : Option Int} : slR (.d (.str x)) l h s = if x.length ≤ lim then .ok (.d (.str (cut x l h))) s else .bad := rfl
/-! ### built-in calls -/
def allR (o : Option (List Bool)) (s : Sto) : Res W := match o with | some bs => .ok (.d (.bl (bs.all id))) s | none => .bad
@[simp] theorem allR_s {bs : List Bool} : allR (some bs) s = .ok (.d (.bl (bs.all id))) s := rfl
def anyR (o : Option (List Bool)) (s : Sto) : Res W := match o with | some bs => .ok (.d (.bl (bs.any id))) s | none => .bad
@[simp] theorem anyR_s {bs : List Bool} : anyR (some bs) s = .ok (.d (.bl (bs.any id))) s := rfl
def sumR (o : Option (List Int)) (s : Sto) : Res W := match o with | some is => .ok (.d (.int is.sum)) s | none => .bad
@[simp] theorem sumR_s {is : List Int} : sumR (some is) s = .ok (.d (.int is.sum)) s := rfl
def minR (o : Option (List Int)) (s : Sto) : Res W := match o with | some (i :: is) => .ok (.d (.int (is.foldl min i))) s | _ => .bad
@[simp] theorem minR_s {i : Int} {is : List Int} : minR (some (i :: is)) s = .ok (.d (.int (is.foldl min i))) s := rfl
def maxR (o : Option (List Int)) (s : Sto) : Res W := match o with | some (i :: is) => .ok (.d (.int (is.foldl max i))) s | _ => .bad
@[simp] theorem maxR_s {i : Int} {is : List Int} : maxR (some (i :: is)) s = .ok (.d (.int (is.foldl max i))) s := rfl
@[simp] theorem b1_lent {ds : List D} : b1R .len (.d (.tup ds)) s = .ok (.d (.int ds.length)) s := rfl
@[simp] theorem b1_lenl {ds : List D} : b1R .len (.d (.lst ds)) s = .ok (.d (.int ds.length)) s := rfl
@[simp] theorem b1_lens {x : List Nat} : b1R .len (.d (.str x)) s = if x.length ≤ lim then .ok (.d (.int x.length)) s else .bad := rfl
@[simp] theorem b1_tupl {ds : List D} : b1R .tuple (.d (.lst ds)) s = .ok (.d (.tup ds)) s := rfl
@[simp] theorem b1_tupt {ds : List D} : b1R .tuple (.d (.tup ds)) s = .ok (.d (.tup ds)) s := rfl
@[simp] theorem b1_lstl {ds : List D} : b1R .list (.d (.lst ds)) s = .ok (.d (.lst ds)) s := rfl
@[simp] theorem b1_lstt {ds : List D} : b1R .list (.d (.tup ds)) s = .ok (.d (.lst ds)) s := rfl
@[simp] theorem b1_lstd {kvs : List (D × D)} : b1R .list (.dct kvs) s = .ok (.d (.lst (kvs.map (·.1)))) s := rfl
@[simp] theorem b1_all {ds : List D} : b1R .all (.d (.lst ds)) s = allR (allM isBl ds) s := rfl
@[simp] theorem b1_any {ds : List D} : b1R .any (.d (.lst ds)) s = anyR (allM isBl ds) s := rfl
@[simp] theorem b1_sum {ds : List D} : b1R .sum (.d (.lst ds)) s = sumR (allM asInt ds) s := rfl
@[simp] theorem b1_sorted {ds : List D} : b1R .sorted (.d (.lst ds)) s = if allAlike ds && decide (depths ds ≤ 50) then .ok (.d (.lst (sortD ds))) s else .bad := rfl
@[simp] theorem b1_intb {b : Bool} : b1R .int (.d (.bl b)) s = .ok (.d (.int (if b then 1 else 0))) s := rfl
@[simp] theorem b1_inti {i : Int} : b1R .int (.d (.int i)) s = .ok (.d (.int i)) s := rfl
@[simp] theorem b1_lrevl {ds : List D} : b1R .lrev (.d (.lst ds)) s = .ok (.d (.lst ds.reverse)) s := rfl
@[simp] theorem b1_lrevt {ds : List D} : b1R .lrev (.d (.tup ds)) s = .ok (.d (.lst ds.reverse)) s := rfl
@[simp] theorem b1_lsett {ds : List D} : b1R .lenset (.d (.tup ds)) s = if (ds.all flat || ds.all flatS) && decide (ds.length ≤ 1000) then .ok (.d (.int (unlike ds))) s else .bad := rfl
@[simp] theorem b1_lsetl {ds : List D} : b1R .lenset (.d (.lst ds)) s = if (ds.all flat || ds.all flatS) && decide (ds.length ≤ 1000) then .ok (.d (.int (unlike ds))) s else .bad := rfl
theorem allM_map {α β : Type} {f : D → Option β} {enc : α → D} {g : α → β} (h : ∀ a, f (enc a) = some (g a)) : ∀ xs : List α, allM f (xs.map enc) = some (xs.map g)
  | [] => rfl
  | x :: xs => by rw [List.map_cons, allM, h x, allM_map h xs]; rfl
@[simp] theorem allM_int (xs : List Int) : allM asInt (xs.map D.int) = some xs := by
  have := allM_map (f := asInt) (enc := D.int) (g := id) (fun _ => rfl) xs
  rwa [List.map_id] at this
@[simp] theorem allM_bl (xs : List Bool) : allM isBl (xs.map D.bl) = some xs := by
  have := allM_map (f := isBl) (enc := D.bl) (g := id) (fun _ => rfl) xs
  rwa [List.map_id] at this
@[simp] theorem isi_non_int : isiD .non .int = false := rfl
@[simp] theorem isi_non_bool : isiD .non .bool = false := rfl
@[simp] theorem isi_non_str : isiD .non .str = false := rfl
@[simp] theorem isi_non_tuple : isiD .non .tuple = false := rfl
@[simp] theorem isi_non_list : isiD .non .list = false := rfl
@[simp] theorem isi_bl_int {b : Bool} : isiD (.bl b) .int = true := rfl
@[simp] theorem isi_bl_bool {b : Bool} : isiD (.bl b) .bool = true := rfl
@[simp] theorem isi_bl_str {b : Bool} : isiD (.bl b) .str = false := rfl
@[simp] theorem isi_bl_tuple {b : Bool} : isiD (.bl b) .tuple = false := rfl
@[simp] theorem isi_bl_list {b : Bool} : isiD (.bl b) .list = false := rfl
@[simp] theorem isi_int_int {i : Int} : isiD (.int i) .int = true := rfl
@[simp] theorem isi_int_bool {i : Int} : isiD (.int i) .bool = false := rfl
@[simp] theorem isi_int_str {i : Int} : isiD (.int i) .str = false := rfl
@[simp] theorem isi_int_tuple {i : Int} : isiD (.int i) .tuple = false := rfl
@[simp] theorem isi_int_list {i : Int} : isiD (.int i) .list = false := rfl
@[simp] theorem isi_str_int {x : List Nat} : isiD (.str x) .int = false := rfl
@[simp] theorem isi_str_bool {x : List Nat} : isiD (.str x) .bool = false := rfl
@[simp] theorem isi_str_str {x : List Nat} : isiD (.str x) .str = true := rfl
@[simp] theorem isi_str_tuple {x : List Nat} : isiD (.str x) .tuple = false := rfl
@[simp] theorem isi_str_list {x : List Nat} : isiD (.str x) .list = false := rfl
@[simp] theorem isi_tup_int {ds : List D} : isiD (.tup ds) .int = false := rfl
@[simp] theorem isi_tup_bool {ds : List D} : isiD (.tup ds) .bool = false := rfl
@[simp] theorem isi_tup_str {ds : List D} : isiD (.tup ds) .str = false := rfl
@[simp] theorem isi_tup_tuple {ds : List D} : isiD (.tup ds) .tuple = true := rfl
@[simp] theorem isi_tup_list {ds : List D} : isiD (.tup ds) .list = false := rfl
@[simp] theorem isi_lst_int {ds : List D} : isiD (.lst ds) .int = false := rfl
@[simp] theorem isi_lst_bool {ds : List D} : isiD (.lst ds) .bool = false := rfl
@[simp] theorem isi_lst_str {ds : List D} : isiD (.lst ds) .str = false := rfl
@[simp] theorem isi_lst_tuple {ds : List D} : isiD (.lst ds) .tuple = false := rfl
@[simp] theorem isi_lst_list {ds : List D} : isiD (.lst ds) .list = true := rfl
@[simp] theorem all_tt {α : Type} (xs : List α) : xs.all (fun _ => true) = true := by
  rw [List.all_eq_true]; exact fun _ _ => rfl
@[simp] theorem allM_tt {α : Type} (xs : List α) : allM isBl (xs.map fun _ => D.bl true) = some (xs.map fun _ => true) := allM_map (f := isBl) (enc := fun _ => D.bl true) (g := fun _ => true) (fun _ => rfl) xs
theorem allM_intf {α : Type} (f : α → Int) (xs : List α) : allM asInt (xs.map fun x => D.int (f x)) = some (xs.map f) := allM_map (f := asInt) (enc := fun x => D.int (f x)) (g := f) (fun _ => rfl) xs
theorem allM_blf {α : Type} (f : α → Bool) (xs : List α) : allM isBl (xs.map fun x => D.bl (f x)) = some (xs.map f) := allM_map (f := isBl) (enc := fun x => D.bl (f x)) (g := f) (fun _ => rfl) xs
/-! ### two places, on what is met -/
section
variable {i j : Int} {x y : List D} {u v : List Nat}
@[simp] theorem b_add : binR .add (.d (.int i)) (.d (.int j)) s = .ok (.d (.int (i + j))) s := rfl
@[simp] theorem b_sub : binR .sub (.d (.int i)) (.d (.int j)) s = .ok (.d (.int (i - j))) s := rfl
@[simp] theorem b_mul : binR .mul (.d (.int i)) (.d (.int j)) s = if mulOk i j = true then .ok (.d (.int (i * j))) s else .bad := rfl
@[simp] theorem b_mod : binR .mod (.d (.int i)) (.d (.int j)) s = if 0 < j then .ok (.d (.int (i % j))) s else .bad := by simp [binR]
@[simp] theorem b_fdiv : binR .fdiv (.d (.int i)) (.d (.int j)) s = if divOk j = true then .ok (.d (.int (i / j))) s else .bad := rfl
@[simp] theorem b_pow : binR .pow (.d (.int i)) (.d (.int j)) s = if (0 ≤ j ∧ j ≤ 1000) ∧ i.natAbs < 18446744073709551616 then .ok (.d (.int (i ^ j.toNat))) s else .bad := by simp [binR]
@[simp] theorem b_addt : binR .add (.d (.tup x)) (.d (.tup y)) s = if x.length + y.length ≤ lim then .ok (.d (.tup (x ++ y))) s else .bad := rfl
@[simp] theorem b_addl : binR .add (.d (.lst x)) (.d (.lst y)) s = if x.length + y.length ≤ lim then .ok (.d (.lst (x ++ y))) s else .bad := rfl
@[simp] theorem b_adds : binR .add (.d (.str u)) (.d (.str v)) s = if u.length + v.length ≤ lim then .ok (.d (.str (u ++ v))) s else .bad := rfl
@[simp] theorem b_muls : binR .mul (.d (.str u)) (.d (.int j)) s = if (u.length ≤ 1000 ∧ 0 ≤ j) ∧ j ≤ 1000 then .ok (.d (.str (rep j.toNat u))) s else .bad := by simp [binR]
@[simp] theorem c_lt : cmpR .lt (.d (.int i)) (.d (.int j)) s = .ok (.d (.bl (decide (i < j)))) s := rfl
@[simp] theorem c_le : cmpR .le (.d (.int i)) (.d (.int j)) s = .ok (.d (.bl (decide (i ≤ j)))) s := rfl
@[simp] theorem c_gt : cmpR .gt (.d (.int i)) (.d (.int j)) s = .ok (.d (.bl (decide (j < i)))) s := rfl
@[simp] theorem c_ge : cmpR .ge (.d (.int i)) (.d (.int j)) s = .ok (.d (.bl (decide (j ≤ i)))) s := rfl
@[simp] theorem c_eq {a b : D} : cmpR .eq (.d a) (.d b) s = if depthOk a b = true then .ok (.d (.bl (eqD a b))) s else .bad := by
  cases a <;> cases b <;> rfl
@[simp] theorem c_ne {a b : D} : cmpR .ne (.d a) (.d b) s = if depthOk a b = true then .ok (.d (.bl (!eqD a b))) s else .bad := by
  cases a <;> cases b <;> rfl
@[simp] theorem c_isN {a : D} : cmpR .isN (.d a) (.d .non) s = .ok (.d (.bl (isNon a))) s := by cases a <;> rfl
@[simp] theorem x_tup : ixR (.d (.tup x)) (.d (.int i)) s = itemR (getI x i) s := rfl
@[simp] theorem x_lst : ixR (.d (.lst x)) (.d (.int i)) s = itemR (getI x i) s := rfl
@[simp] theorem x_str : ixR (.d (.str u)) (.d (.int i)) s = if u.length ≤ lim then signR (getI u i) s else .bad := rfl
@[simp] theorem mulOk_2 {i : Int} : mulOk 2 i = true := rfl
theorem div_small (h0 : 0 < j) (h1 : j < 18446744073709551616) : divOk j = true := by
  unfold divOk
  rw [decide_eq_true h0, Bool.true_and]
  have h2 : j.natAbs < 2 ^ 64 := by omega
  have h3 : j.natAbs.log2 < 64 := by
    by_cases z : j.natAbs = 0
    · rw [z]; decide
    · exact (Nat.log2_lt z).mpr h2
  exact decide_eq_true (by omega)
end
/-! ### small sizes -/
@[simp] theorem liml_0 : 0 < lim := by unfold lim; omega
@[simp] theorem lim_1 : 1 ≤ lim := by unfold lim; omega
@[simp] theorem liml_1 : 1 < lim := by unfold lim; omega
@[simp] theorem lim_2 : 2 ≤ lim := by unfold lim; omega
@[simp] theorem liml_2 : 2 < lim := by unfold lim; omega
@[simp] theorem lim_3 : 3 ≤ lim := by unfold lim; omega
@[simp] theorem liml_3 : 3 < lim := by unfold lim; omega
@[simp] theorem lim_4 : 4 ≤ lim := by unfold lim; omega
@[simp] theorem liml_4 : 4 < lim := by unfold lim; omega
@[simp] theorem lim_5 : 5 ≤ lim := by unfold lim; omega
@[simp] theorem liml_5 : 5 < lim := by unfold lim; omega
@[simp] theorem lim_6 : 6 ≤ lim := by unfold lim; omega
@[simp] theorem liml_6 : 6 < lim := by unfold lim; omega
@[simp] theorem lim_7 : 7 ≤ lim := by unfold lim; omega
@[simp] theorem liml_7 : 7 < lim := by unfold lim; omega
@[simp] theorem lim_8 : 8 ≤ lim := by unfold lim; omega
@[simp] theorem liml_8 : 8 < lim := by unfold lim; omega
@[simp] theorem lim_9 : 9 ≤ lim := by unfold lim; omega
@[simp] theorem liml_9 : 9 < lim := by unfold lim; omega
@[simp] theorem lim_10 : 10 ≤ lim := by unfold lim; omega
@[simp] theorem liml_10 : 10 < lim := by unfold lim; omega
@[simp] theorem lim_11 : 11 ≤ lim := by unfold lim; omega
@[simp] theorem liml_11 : 11 < lim := by unfold lim; omega
@[simp] theorem lim_12 : 12 ≤ lim := by unfold lim; omega
@[simp] theorem liml_12 : 12 < lim := by unfold lim; omega
@[simp] theorem lim_13 : 13 ≤ lim := by unfold lim; omega
@[simp] theorem liml_13 : 13 < lim := by unfold lim; omega
@[simp] theorem lim_14 : 14 ≤ lim := by unfold lim; omega
@[simp] theorem liml_14 : 14 < lim := by unfold lim; omega
@[simp] theorem lim_15 : 15 ≤ lim := by unfold lim; omega
@[simp] theorem liml_15 : 15 < lim := by unfold lim; omega
@[simp] theorem lim_16 : 16 ≤ lim := by unfold lim; omega
@[simp] theorem liml_16 : 16 < lim := by unfold lim; omega
@[simp] theorem lim_17 : 17 ≤ lim := by unfold lim; omega
@[simp] theorem liml_17 : 17 < lim := by unfold lim; omega
@[simp] theorem lim_18 : 18 ≤ lim := by unfold lim; omega
@[simp] theorem liml_18 : 18 < lim := by unfold lim; omega
@[simp] theorem lim_19 : 19 ≤ lim := by unfold lim; omega
@[simp] theorem liml_19 : 19 < lim := by unfold lim; omega
@[simp] theorem lim_20 : 20 ≤ lim := by unfold lim; omega
@[simp] theorem liml_20 : 20 < lim := by unfold lim; omega
@[simp] theorem lim_21 : 21 ≤ lim := by unfold lim; omega
@[simp] theorem liml_21 : 21 < lim := by unfold lim; omega
@[simp] theorem lim_22 : 22 ≤ lim := by unfold lim; omega
@[simp] theorem liml_22 : 22 < lim := by unfold lim; omega
@[simp] theorem lim_23 : 23 ≤ lim := by unfold lim; omega
@[simp] theorem liml_23 : 23 < lim := by unfold lim; omega
@[simp] theorem lim_24 : 24 ≤ lim := by unfold lim; omega
@[simp] theorem liml_24 : 24 < lim := by unfold lim; omega
@[simp] theorem b1_max {ds : List D} : b1R .max (.d (.lst ds)) s = maxR (allM asInt ds) s := by
  show (match allM asInt ds with | some (i :: is) => pureR (.int (is.foldl max i)) s | _ => .bad) = _
  cases allM asInt ds with
  | none => rfl
  | some is => cases is <;> rfl
/-! ### dicts -/
@[simp] theorem cmp_isIn_d {k : D} {kvs : List (D × D)} : cmpR .isIn (.d k) (.dct kvs) s = if keyT k = true then .ok (.d (.bl (hasKV kvs k))) s else .bad := by cases k <;> rfl
@[simp] theorem cmp_notIn_d {k : D} {kvs : List (D × D)} : cmpR .notIn (.d k) (.dct kvs) s = if keyT k = true then .ok (.d (.bl (!hasKV kvs k))) s else .bad := by cases k <;> rfl
@[simp] theorem cmp_isIn_i {k : Int} {kvs : List (Int × D)} : cmpR .isIn (.d (.int k)) (.dci kvs) s = .ok (.d (.bl (hasKI kvs k))) s := rfl
@[simp] theorem x_dci {k : Int} {kvs : List (Int × D)} : ixR (.dci kvs) (.d (.int k)) s = itemR (getKI kvs k) s := rfl
/-! ### places -/
@[simp] theorem getI_n {α : Type} (xs : List α) (i : Nat) : getI xs (i : Int) = xs[i]? := by
  unfold getI place
  rw [if_pos (by omega)]
  by_cases h : i < xs.length
  · rw [if_pos (by omega)]
    show xs[(i : Int).toNat]? = _
    rw [Int.toNat_natCast]
  · rw [if_neg (by omega)]
    exact (List.getElem?_eq_none (by omega)).symm
@[simp] theorem getI_0 {α : Type} (xs : List α) : getI xs 0 = xs[0]? := getI_n xs 0
@[simp] theorem getI_1 {α : Type} (xs : List α) : getI xs 1 = xs[1]? := getI_n xs 1
@[simp] theorem getI_2 {α : Type} (xs : List α) : getI xs 2 = xs[2]? := getI_n xs 2
@[simp] theorem getI_3 {α : Type} (xs : List α) : getI xs 3 = xs[3]? := getI_n xs 3
@[simp] theorem getI_4 {α : Type} (xs : List α) : getI xs 4 = xs[4]? := getI_n xs 4
theorem getI_back {α : Type} (xs : List α) (h : 0 < xs.length) : getI xs (-1) = xs[xs.length - 1]? := by
  unfold getI place
  rw [if_neg (by omega), if_pos (by omega)]
  show xs[((-1 : Int) + xs.length).toNat]? = _
  congr 1
  omega
theorem place0 {n : Nat} (h : 0 < n) : place n 0 = some 0 := by
  unfold place
  rw [if_pos (by decide), if_pos (by omega)]; rfl
theorem place_n {n i : Nat} (h : i < n) : place n (i : Int) = some i := by
  unfold place
  rw [if_pos (by omega), if_pos (by omega), Int.toNat_natCast]
instance : Inhabited D := ⟨.non⟩
/-- the item at a place -/
def nth {α : Type} [Inhabited α] (xs : List α) (i : Nat) : α := xs.getD i default
theorem nth_get {α : Type} [Inhabited α] {xs : List α} {i : Nat} (h : i < xs.length) : xs[i]? = some (nth xs i) := by
  unfold nth
  rw [List.getD_eq_getElem?_getD, List.getElem?_eq_getElem h]; rfl
theorem nth_eq {α : Type} [Inhabited α] {xs : List α} {i : Nat} (h : i < xs.length) : nth xs i = xs[i] := by
  have := nth_get h
  rw [List.getElem?_eq_getElem h] at this
  exact (Option.some.inj this).symm
theorem nth_of {α : Type} [Inhabited α] {xs : List α} {i : Nat} {x : α} (h : xs[i]? = some x) : nth xs i = x := by
  unfold nth
  rw [List.getD_eq_getElem?_getD, h]; rfl
theorem nth_mem {α : Type} [Inhabited α] {xs : List α} {i : Nat} (h : i < xs.length) : nth xs i ∈ xs := by
  rw [nth_eq h]; exact List.getElem_mem h
theorem nth_map {α β : Type} [Inhabited α] [Inhabited β] {f : α → β} {xs : List α} {i : Nat} (h : i < xs.length) : nth (xs.map f) i = f (nth xs i) := by
  rw [nth_eq (by simpa using h), nth_eq h, List.getElem_map]
theorem nth_inj {α : Type} [Inhabited α] {xs : List α} (hn : xs.Nodup) {i j : Nat} (hi : i < xs.length) (hj : j < xs.length) (h : nth xs i = nth xs j) : i = j := by
  rw [nth_eq hi, nth_eq hj] at h
  unfold List.Nodup at hn
  rw [List.pairwise_iff_getElem] at hn
  by_cases h1 : i < j
  · exact absurd h (hn i j hi hj h1)
  · by_cases h2 : j < i
    · exact absurd h.symm (hn j i hj hi h2)
    · omega
theorem nodup_map {α β : Type} {f : α → β} : ∀ {xs : List α}, (∀ x ∈ xs, ∀ y ∈ xs, f x = f y → x = y) → xs.Nodup → (xs.map f).Nodup
  | [], _, _ => by simp
  | x :: xs, h, hn => by
    rw [List.nodup_cons] at hn
    rw [List.map_cons, List.nodup_cons]
    refine ⟨fun hm => ?_, nodup_map (fun a ha b hb => h a (List.mem_cons_of_mem x ha) b (List.mem_cons_of_mem x hb)) hn.2⟩
    obtain ⟨y, hy, e⟩ := List.mem_map.mp hm
    exact hn.1 (h y (List.mem_cons_of_mem x hy) x (List.mem_cons_self ..) e ▸ hy)
@[simp] theorem cut1 {α : Type} (xs : List α) : cut xs (some 1) none = xs.tail := by
  show (xs.drop (min 1 xs.length)).take (xs.length - min 1 xs.length) = _
  cases xs with
  | nil => rfl
  | cons x xs =>
    have : min 1 (x :: xs).length = 1 := by rw [List.length_cons]; omega
    rw [this, List.take_of_length_le (by simp)]
    rfl
theorem cut01 {α : Type} (xs : List α) : cut xs none (some 1) = xs.take 1 := by
  show (xs.drop 0).take (min 1 xs.length - 0) = _
  rw [List.drop_zero, Nat.sub_zero]
  cases xs with
  | nil => rfl
  | cons x xs =>
    have : min 1 (x :: xs).length = 1 := by rw [List.length_cons]; omega
    rw [this]
theorem tail_map {α β : Type} (f : α → β) (xs : List α) : (xs.map f).tail = xs.tail.map f := by cases xs <;> rfl
@[simp] theorem cmp_isIn_l {a : D} {ds : List D} : cmpR .isIn (.d a) (.d (.lst ds)) s = if depthOk a (.lst ds) = true then .ok (.d (.bl (inD a ds))) s else .bad := by cases a <;> rfl
@[simp] theorem cmp_notIn_l {a : D} {ds : List D} : cmpR .notIn (.d a) (.d (.lst ds)) s = if depthOk a (.lst ds) = true then .ok (.d (.bl (!inD a ds))) s else .bad := by cases a <;> rfl
@[simp] theorem cmp_isIn_t {a : D} {ds : List D} : cmpR .isIn (.d a) (.d (.tup ds)) s = if depthOk a (.tup ds) = true then .ok (.d (.bl (inD a ds))) s else .bad := by cases a <;> rfl
@[simp] theorem cmp_notIn_t {a : D} {ds : List D} : cmpR .notIn (.d a) (.d (.tup ds)) s = if depthOk a (.tup ds) = true then .ok (.d (.bl (!inD a ds))) s else .bad := by cases a <;> rfl
theorem eqD_str (a b : List Nat) : eqD (.str a) (.str b) = (a == b) := by rw [eqD]
theorem inD_str (x : List Nat) (ns : List (List Nat)) : inD (.str x) (ns.map D.str) = ns.contains x := by
  induction ns with
  | nil => rfl
  | cons n ns ih =>
    unfold inD at ih ⊢
    rw [List.map_cons, List.any_cons, ih, eqD_str, List.contains_cons]
    congr 1
    by_cases h : n = x
    · subst h; rfl
    · rw [beq_eq_false_iff_ne.mpr h, beq_eq_false_iff_ne.mpr (Ne.symm h)]
/-! ### depths -/
@[simp] theorem depth_i {i : Int} : depth (.int i) = 0 := by rw [depth] <;> simp
@[simp] theorem depth_s {x : List Nat} : depth (.str x) = 0 := by rw [depth] <;> simp
@[simp] theorem depth_b {b : Bool} : depth (.bl b) = 0 := by rw [depth] <;> simp
@[simp] theorem depth_non : depth .non = 0 := by rw [depth] <;> simp
@[simp] theorem depth_t {ds : List D} : depth (.tup ds) = depths ds + 1 := by rw [depth]
@[simp] theorem depth_l {ds : List D} : depth (.lst ds) = depths ds + 1 := by rw [depth]
@[simp] theorem depths_nil : depths [] = 0 := by rw [depths]
@[simp] theorem depths_cons {d : D} {ds : List D} : depths (d :: ds) = max (depth d) (depths ds) := by rw [depths]
theorem depths_le {ds : List D} {n : Nat} (h : ∀ d ∈ ds, depth d ≤ n) : depths ds ≤ n := by
  induction ds with
  | nil => simp
  | cons d ds ih =>
    rw [depths_cons]
    exact Nat.max_le.mpr ⟨h d (List.mem_cons_self ..), ih fun e he => h e (List.mem_cons_of_mem d he)⟩
theorem depthOk_l {a b : D} (h : depth a ≤ 60) : depthOk a b = true := decide_eq_true (Nat.le_trans (Nat.min_le_left ..) h)
theorem depthOk_r {a b : D} (h : depth b ≤ 60) : depthOk a b = true := decide_eq_true (Nat.le_trans (Nat.min_le_right ..) h)
theorem depths_map {α : Type} {f : α → D} {n : Nat} (h : ∀ a, depth (f a) ≤ n) (xs : List α) : depths (xs.map f) ≤ n := depths_le fun d hd => by
  obtain ⟨a, _, rfl⟩ := List.mem_map.mp hd
  exact h a
@[simp] theorem depthOk_i {i : Int} {d : D} : depthOk (.int i) d = true := depthOk_l (by simp)
@[simp] theorem depthOk_i' {i : Int} {d : D} : depthOk d (.int i) = true := depthOk_r (by simp)
@[simp] theorem depthOk_s {x : List Nat} {d : D} : depthOk (.str x) d = true := depthOk_l (by simp)
@[simp] theorem depthOk_s' {x : List Nat} {d : D} : depthOk d (.str x) = true := depthOk_r (by simp)
@[simp] theorem depthOk_n {d : D} : depthOk .non d = true := depthOk_l (by simp)
@[simp] theorem depthOk_n' {d : D} : depthOk d .non = true := depthOk_r (by simp)
@[simp] theorem depthOk_b {b : Bool} {d : D} : depthOk (.bl b) d = true := depthOk_l (by simp)
@[simp] theorem depthOk_b' {b : Bool} {d : D} : depthOk d (.bl b) = true := depthOk_r (by simp)
@[simp] theorem depthOk_e {d : D} : depthOk d (.lst []) = true := depthOk_r (by simp)
@[simp] theorem depthOk_et {d : D} : depthOk d (.tup []) = true := depthOk_r (by simp)
mutual
theorem eqD_refl : ∀ d : D, eqD d d = true
  | .non => by rw [eqD] <;> simp
  | .bl b => by rw [eqD] <;> simp
  | .int i => by rw [eqD] <;> simp
  | .str x => by rw [eqD] <;> simp
  | .tup ds => by rw [eqD]; exact eqDs_refl ds
  | .lst ds => by rw [eqD]; exact eqDs_refl ds
theorem eqDs_refl : ∀ ds : List D, eqDs ds ds = true
  | [] => by rw [eqDs] <;> simp
  | d :: ds => by rw [eqDs, eqD_refl d, eqDs_refl ds]; rfl
end
theorem last_get {α : Type} {xs : List α} (h : xs ≠ []) : ∃ a ∈ xs, xs[xs.length - 1]? = some a := by
  have hl : 0 < xs.length := List.length_pos_iff.mpr h
  have h2 : xs.length - 1 < xs.length := by omega
  exact ⟨xs[xs.length - 1], List.getElem_mem h2, List.getElem?_eq_getElem h2⟩
/-! ### one by one -/
def lcK (F : D → Sto → Res (Option D)) (ds acc : List D) : Option D → Sto → Res (List D) := fun o s => match o with
    | some x => if acc.length < lim then lcGo F ds (acc ++ [x]) s else .bad
    | none => lcGo F ds acc s
@[simp] theorem lcK_some {F : D → Sto → Res (Option D)} {ds acc : List D} {x : D} : lcK F ds acc (some x) s = if acc.length < lim then lcGo F ds (acc ++ [x]) s else .bad := rfl
@[simp] theorem lcK_none {F : D → Sto → Res (Option D)} {ds acc : List D} : lcK F ds acc none s = lcGo F ds acc s := rfl
theorem lcGo_nil {F : D → Sto → Res (Option D)} {acc : List D} : lcGo F [] acc s = .ok acc s := rfl
theorem lcGo_cons {F : D → Sto → Res (Option D)} {d : D} {ds acc : List D} : lcGo F (d :: ds) acc s = (F d s).bind (lcK F ds acc) := by rw [lcGo]; rfl
def fgK (tup : Bool) (tg : List Nat) (f : Env → Sto → RS) (ds : List D) : Env → Sto → RS := fun δ s => forGo tup tg f ds δ s
@[simp] theorem fgK_ap {tup : Bool} {tg : List Nat} {f : Env → Sto → RS} {ds : List D} : fgK tup tg f ds δ s = forGo tup tg f ds δ s := rfl
def fgR (tup : Bool) (tg : List Nat) (f : Env → Sto → RS) (ds : List D) (s : Sto) (o : Option Env) : RS := match o with
  | some δ' => (f δ' s).then (fgK tup tg f ds)
  | none => .bad
@[simp] theorem fgR_s {tup : Bool} {tg : List Nat} {f : Env → Sto → RS} {ds : List D} : fgR tup tg f ds s (some δ) = (f δ s).then (fgK tup tg f ds) := rfl
theorem forGo_nil {tup : Bool} {tg : List Nat} {f : Env → Sto → RS} : forGo tup tg f [] δ s = .nx δ s := rfl
theorem forGo_cons {tup : Bool} {tg : List Nat} {f : Env → Sto → RS} {d : D} {ds : List D} : forGo tup tg f (d :: ds) δ s = fgR tup tg f ds s (setTg tup tg d δ) := by
  rw [forGo]
  cases setTg tup tg d δ <;> rfl
@[simp] theorem b1_min {ds : List D} : b1R .min (.d (.lst ds)) s = minR (allM asInt ds) s := by
  show (match allM asInt ds with | some (i :: is) => pureR (.int (is.foldl min i)) s | _ => .bad) = _
  cases allM asInt ds with
  | none => rfl
  | some is => cases is <;> rfl
/-! ### comprehensions -/
theorem lc_from {α : Type} {F : D → Sto → Res (Option D)} {enc g : α → D} {p : α → Bool} : ∀ (xs : List α) (acc : List D) (s : Sto), (∀ x ∈ xs, F (enc x) s = .ok (if p x then some (g x) else none) s) → acc.length + xs.length ≤ lim →
    lcGo F (xs.map enc) acc s = .ok (acc ++ (xs.filter p).map g) s
  | [], acc, s, _, _ => by simp [lcGo]
  | x :: xs, acc, s, h, hl => by
    rw [List.map_cons, lcGo, h x (List.mem_cons_self ..), bind_ok]
    have h' := fun y hy => h y (List.mem_cons_of_mem x hy)
    rw [List.length_cons] at hl
    cases hp : p x with
    | true =>
      simp only [if_true]
      rw [if_pos (by omega), lc_from xs (acc ++ [g x]) s h' (by rw [List.length_append]; simp; omega), List.filter_cons_of_pos hp]
      simp
    | false =>
      simp only [Bool.false_eq_true, if_false]
      rw [lc_from xs acc s h' (by omega), List.filter_cons_of_neg (by simp [hp])]
theorem lc_filter {α : Type} {F : D → Sto → Res (Option D)} {enc g : α → D} {p : α → Bool} {xs : List α} {s : Sto} (h : ∀ x ∈ xs, F (enc x) s = .ok (if p x then some (g x) else none) s) (hl : xs.length ≤ lim) : lcGo F (xs.map enc) [] s = .ok ((xs.filter p).map g) s := by
  have := lc_from xs [] s h (by simpa using hl)
  simpa using this
theorem lc_map {α : Type} {F : D → Sto → Res (Option D)} {enc g : α → D} {xs : List α} {s : Sto} (h : ∀ x ∈ xs, F (enc x) s = .ok (some (g x)) s) (hl : xs.length ≤ lim) : lcGo F (xs.map enc) [] s = .ok (xs.map g) s := by
  have := lc_filter (F := F) (enc := enc) (g := g) (s := s) (p := fun _ => true) (fun x hx => by rw [h x hx]; rfl) hl
  rw [this]
  have e : xs.filter (fun _ => true) = xs := List.filter_eq_self.mpr fun _ _ => rfl
  rw [e]
theorem lc_id {F : D → Sto → Res (Option D)} {g : D → D} {ds : List D} {s : Sto} (h : ∀ x ∈ ds, F x s = .ok (some (g x)) s) (hl : ds.length ≤ lim) : lcGo F ds [] s = .ok (ds.map g) s := by
  have := lc_map (F := F) (enc := id) (g := g) (xs := ds) (s := s) h hl
  rwa [List.map_id] at this
theorem lc_idf {F : D → Sto → Res (Option D)} {g : D → D} {p : D → Bool} {ds : List D} {s : Sto} (h : ∀ x ∈ ds, F x s = .ok (if p x then some (g x) else none) s) (hl : ds.length ≤ lim) : lcGo F ds [] s = .ok ((ds.filter p).map g) s := by
  have := lc_filter (F := F) (enc := id) (g := g) (p := p) (xs := ds) (s := s) h hl
  rwa [List.map_id] at this
inductive All2 {α β : Type} (R : α → β → Prop) : List α → List β → Prop
  | nil : All2 R [] []
  | cons {x : α} {y : β} {xs : List α} {ys : List β} (h : R x y) (t : All2 R xs ys) : All2 R (x :: xs) (y :: ys)
/-- the dice roll within -/
theorem lc_rel {F : D → Sto → Res (Option D)} {P : Sto → Prop} {R : D → D → Prop} : ∀ (ds acc : List D) (s : Sto), P s → (∀ d ∈ ds, ∀ s, P s → ∃ y s', F d s = .ok (some y) s' ∧ P s' ∧ R d y) → acc.length + ds.length ≤ lim →
    ∃ ys s', lcGo F ds acc s = .ok (acc ++ ys) s' ∧ P s' ∧ All2 R ds ys
  | [], acc, s, hp, _, _ => ⟨[], s, by simp [lcGo], hp, .nil⟩
  | d :: ds, acc, s, hp, h, hl => by
    obtain ⟨y, s1, e, hp1, r⟩ := h d (List.mem_cons_self ..) s hp
    rw [List.length_cons] at hl
    obtain ⟨ys, s2, e2, hp2, r2⟩ := lc_rel ds (acc ++ [y]) s1 hp1 (fun e he => h e (List.mem_cons_of_mem d he)) (by rw [List.length_append]; simp; omega)
    refine ⟨y :: ys, s2, ?_, hp2, .cons r r2⟩
    rw [lcGo, e, bind_ok]
    simp only
    rw [if_pos (by omega), e2]
    simp
/-! ### what comes out -/
def Gv {α : Type} (r : Res α) (Q : α → Sto → Prop) : Prop := ∃ a s, r = .ok a s ∧ Q a s
theorem Gv.ok {α : Type} {a : α} {Q : α → Sto → Prop} (h : Q a s) : Gv (.ok a s) Q := ⟨a, s, rfl, h⟩
theorem Gv.of {α : Type} {r : Res α} {a : α} {s' : Sto} {Q : α → Sto → Prop} (e : r = .ok a s') (h : Q a s') : Gv r Q := ⟨a, s', e, h⟩
theorem Gv.bind {α β : Type} {r : Res α} {f : α → Sto → Res β} {Q1 : α → Sto → Prop} {Q : β → Sto → Prop} (h : Gv r Q1) (k : ∀ a s', Q1 a s' → Gv (f a s') Q) : Gv (r.bind f) Q := by
  obtain ⟨a, s', rfl, h⟩ := h
  exact k a s' h
theorem Gv.mono {α : Type} {r : Res α} {Q1 Q : α → Sto → Prop} (h : Gv r Q1) (k : ∀ a s', Q1 a s' → Q a s') : Gv r Q := by
  obtain ⟨a, s', rfl, h⟩ := h
  exact ⟨a, s', rfl, k a s' h⟩
/-- within a statement -/
theorem Gv.stmt {α : Type} {r : Res α} {f : α → Sto → RS} {g : Env → Sto → RS} {Q1 : α → Sto → Prop} {Q : W → Sto → Prop} (h : Gv r Q1) (k : ∀ a s', Q1 a s' → Gv (outR ((f a s').then g)) Q) : Gv (outR ((r.toS f).then g)) Q := by
  obtain ⟨a, s', rfl, h⟩ := h
  exact k a s' h
/-- a comprehension whose turns roll the dice -/
theorem gv_lc {F : D → Sto → Res (Option D)} {P : Sto → Prop} {R : D → D → Prop} {ds : List D} {Q : List D → Sto → Prop} (hp : P s) (h : ∀ d ∈ ds, ∀ s, P s → Gv (F d s) fun o s' => ∃ y, o = some y ∧ P s' ∧ R d y) (hl : ds.length ≤ lim) (k : ∀ ys s', P s' → All2 R ds ys → Q ys s') : Gv (noExc (lcGo F ds [] s)) Q := by
  obtain ⟨ys, s', e, hp', r⟩ := lc_rel (F := F) (P := P) (R := R) ds [] s hp (fun d hd s hs => by
    obtain ⟨o, s', e, y, rfl, h1, h2⟩ := h d hd s hs
    exact ⟨y, s', e, h1, h2⟩) (by simpa using hl)
  rw [List.nil_append] at e
  rw [e]
  exact Gv.ok (k ys s' hp' r)
theorem All2.len {α β : Type} {R : α → β → Prop} : ∀ {xs : List α} {ys : List β}, All2 R xs ys → ys.length = xs.length
  | _, _, .nil => rfl
  | _, _, .cons _ t => by rw [List.length_cons, List.length_cons, t.len]
theorem All2.right {α β : Type} {R : α → β → Prop} : ∀ {xs : List α} {ys : List β}, All2 R xs ys → ∀ y ∈ ys, ∃ x ∈ xs, R x y
  | _, _, .nil, y, h => by cases h
  | _, _, .cons r t, y, h => by
    rcases List.mem_cons.mp h with rfl | h
    · exact ⟨_, List.mem_cons_self .., r⟩
    · obtain ⟨x, h1, h2⟩ := t.right y h
      exact ⟨x, List.mem_cons_of_mem _ h1, h2⟩
theorem range_len (a b : Int) : (rangeD a b).length = (b - a).toNat := by simp [rangeD]
theorem rng_ok {a b : Int} (h0 : 0 ≤ a) (h1 : a ≤ 1000) (h2 : 0 ≤ b) (h3 : b ≤ 1000) : rngOk a b = true := by
  unfold rngOk lim
  simp only [Bool.and_eq_true, Nat.ble_eq]
  omega
/-- a statement that goes on -/
def Nx (r : RS) (Q : Env → Sto → Prop) : Prop := ∃ δ s, r = .nx δ s ∧ Q δ s
theorem Nx.of {r : RS} {δ' : Env} {s' : Sto} {Q : Env → Sto → Prop} (e : r = .nx δ' s') (h : Q δ' s') : Nx r Q := ⟨δ', s', e, h⟩
theorem Nx.mono {r : RS} {Q1 Q : Env → Sto → Prop} (h : Nx r Q1) (k : ∀ δ s, Q1 δ s → Q δ s) : Nx r Q := by
  obtain ⟨δ, s, e, h⟩ := h
  exact ⟨δ, s, e, k δ s h⟩
theorem getI_map {α β : Type} {f : α → β} {xs : List α} {i : Int} {x : α} (h : getI xs i = some x) : getI (xs.map f) i = some (f x) := by
  unfold getI at h ⊢
  rw [List.length_map]
  cases e : place xs.length i with
  | none => rw [e] at h; cases h
  | some j =>
    rw [e] at h
    have h : xs[j]? = some x := h
    show (xs.map f)[j]? = _
    rw [List.getElem?_map, h]
    rfl
theorem Nx.then_ {r : RS} {f : Env → Sto → RS} {Q1 Q : Env → Sto → Prop} (h : Nx r Q1) (k : ∀ δ s, Q1 δ s → Nx (f δ s) Q) : Nx (r.then f) Q := by
  obtain ⟨δ, s, rfl, h⟩ := h
  exact k δ s h
theorem Nx.toS {α : Type} {r : Res α} {f : α → Sto → RS} {Q1 : α → Sto → Prop} {Q : Env → Sto → Prop} (h : Gv r Q1) (k : ∀ a s', Q1 a s' → Nx (f a s') Q) : Nx (r.toS f) Q := by
  obtain ⟨a, s', rfl, h⟩ := h
  exact k a s' h
theorem Gv.nx {r : RS} {g : Env → Sto → RS} {Q1 : Env → Sto → Prop} {Q : W → Sto → Prop} (h : Nx r Q1) (k : ∀ δ s, Q1 δ s → Gv (outR (g δ s)) Q) : Gv (outR (r.then g)) Q := by
  obtain ⟨δ, s, rfl, h⟩ := h
  exact k δ s h
theorem nx_for {tup : Bool} {tg : List Nat} {f : Env → Sto → RS} (I : Nat → Env → Sto → Prop) : ∀ (ds : List D) (n : Nat) (δ : Env) (s : Sto), I n δ s →
    (∀ i d δ s, ds[i]? = some d → I (n + i) δ s → ∃ δ1, setTg tup tg d δ = some δ1 ∧ Nx (f δ1 s) (I (n + i + 1))) → Nx (forGo tup tg f ds δ s) (I (n + ds.length))
  | [], n, δ, s, h, _ => ⟨δ, s, rfl, h⟩
  | d :: ds, n, δ, s, h, k => by
    obtain ⟨δ1, e1, δ2, s2, e2, h2⟩ := k 0 d δ s rfl h
    have := nx_for I ds (n + 1) δ2 s2 h2 fun i d' δ s hi h => by
      have := k (i + 1) d' δ s (by simpa using hi) (by rw [show n + (i + 1) = n + 1 + i by omega]; exact h)
      rw [show n + (i + 1) + 1 = n + 1 + i + 1 by omega] at this
      exact this
    obtain ⟨δ3, s3, e3, h3⟩ := this
    refine ⟨δ3, s3, ?_, by rw [List.length_cons, show n + (ds.length + 1) = n + 1 + ds.length by omega]; exact h3⟩
    rw [forGo, e1]
    simp only
    rw [e2]
    exact e3
/-- a loop that keeps the rest as it is: a fold -/
theorem for_rel {tup : Bool} {tg : List Nat} {f : Env → Sto → RS} {A α : Type} {enc : α → D} {s : Sto} (R : Nat → A → Env → Prop) (step : A → α → A) (xs : List α) (a0 : A) (δ : Env) (h : R 0 a0 δ)
    (k : ∀ i x, xs[i]? = some x → x ∈ xs → ∀ a δ, R i a δ → ∃ δ1, setTg tup tg (enc x) δ = some δ1 ∧ Nx (f δ1 s) fun δ2 s2 => s2 = s ∧ R (i + 1) (step a x) δ2) : Nx (forGo tup tg f (xs.map enc) δ s) fun δ2 s2 => s2 = s ∧ R xs.length (xs.foldl step a0) δ2 := by
  have := nx_for (tup := tup) (tg := tg) (f := f) (fun i δ s' => s' = s ∧ R i ((xs.take i).foldl step a0) δ) (xs.map enc) 0 δ s ⟨rfl, h⟩ ?_
  · rw [Nat.zero_add, List.length_map, List.take_length] at this
    exact this
  · rintro i d δ s' hi ⟨rfl, hR⟩
    rw [Nat.zero_add] at hR ⊢
    rw [List.getElem?_map] at hi
    cases hx : xs[i]? with
    | none => rw [hx] at hi; cases hi
    | some x =>
      rw [hx] at hi
      cases hi
      obtain ⟨δ1, e1, h2⟩ := k i x hx (List.mem_of_getElem? hx) _ δ hR
      refine ⟨δ1, e1, h2.mono fun δ2 s2 h => ⟨h.1, ?_⟩⟩
      have : (xs.take (i + 1)).foldl step a0 = step ((xs.take i).foldl step a0) x := by
        rw [List.take_add_one, hx, List.foldl_append]; rfl
      rw [this]
      exact h.2
/-- the same, the state along -/
theorem for_relS {tup : Bool} {tg : List Nat} {f : Env → Sto → RS} {α : Type} {enc : α → D} (R : Env → Sto → Prop) : ∀ (xs : List α) (δ : Env) (s : Sto), R δ s →
    (∀ x ∈ xs, ∀ δ s, R δ s → ∃ δ1, setTg tup tg (enc x) δ = some δ1 ∧ Nx (f δ1 s) R) → Nx (forGo tup tg f (xs.map enc) δ s) R
  | [], δ, s, h, _ => ⟨δ, s, rfl, h⟩
  | x :: xs, δ, s, h, k => by
    obtain ⟨δ1, e1, δ2, s2, e2, h2⟩ := k x (List.mem_cons_self ..) δ s h
    obtain ⟨δ3, s3, e3, h3⟩ := for_relS R xs δ2 s2 h2 fun y hy => k y (List.mem_cons_of_mem x hy)
    refine ⟨δ3, s3, ?_, h3⟩
    rw [List.map_cons, forGo, e1]
    simp only
    rw [e2]
    exact e3
theorem for_mem {tup : Bool} {tg : List Nat} {f : Env → Sto → RS} (R : Env → Sto → Prop) (ds : List D) (δ : Env) (s : Sto) (h : R δ s)
    (k : ∀ d ∈ ds, ∀ δ s, R δ s → ∃ δ1, setTg tup tg d δ = some δ1 ∧ Nx (f δ1 s) R) : Nx (forGo tup tg f ds δ s) R := by
  have := for_relS (tup := tup) (tg := tg) (f := f) (enc := id) R ds δ s h k
  rwa [List.map_id] at this
theorem foldl_app {α β : Type} (g : α → β) : ∀ (xs : List α) (acc : List β), xs.foldl (fun acc x => acc ++ [g x]) acc = acc ++ xs.map g
  | [], acc => by simp
  | x :: xs, acc => by
    rw [List.foldl_cons, foldl_app g xs]
    simp
theorem enumD_map {α : Type} (f : α → D) : ∀ (n : Nat) (xs : List α), enumD n (xs.map f) = (xs.zipIdx n).map fun p => .tup [.int p.2, f p.1]
  | n, [] => rfl
  | n, x :: xs => by
    rw [List.map_cons, enumD, enumD_map f (n + 1) xs, List.zipIdx_cons, List.map_cons]
theorem foldl_add {α : Type} (f : α → Int) : ∀ (xs : List α) (a : Int), xs.foldl (fun a x => a + f x) a = a + (xs.map f).sum
  | [], a => by simp
  | x :: xs, a => by
    rw [List.foldl_cons, foldl_add f xs, List.map_cons, List.sum_cons]
    omega
theorem go_more (t : Env → Sto → Res W) (f : Env → Sto → RS) : ∀ (n : Nat) (δ : Env) (s : Sto) (r : RS), whGo t f n δ s = some r → whGo t f (n + 1) δ s = some r
  | 0, _, _, _, h => by cases h
  | n + 1, δ, s, r, h => by
    unfold whGo at h ⊢
    cases e : t δ s with
    | ok w s1 =>
      rw [e] at h
      simp only at h ⊢
      cases et : truth w with
      | none => rw [et] at h; exact h
      | some b =>
        rw [et] at h
        cases b with
        | false => exact h
        | true =>
          simp only at h ⊢
          cases er : f δ s1 with
          | nx δ2 s2 => rw [er] at h; exact go_more t f n δ2 s2 r h
          | _ => rw [er] at h; exact h
    | _ => rw [e] at h; exact h
theorem go_le {t : Env → Sto → Res W} {f : Env → Sto → RS} {n m : Nat} {δ : Env} {s : Sto} {r : RS} (h : whGo t f n δ s = some r) (hm : n ≤ m) : whGo t f m δ s = some r := by
  induction hm with
  | refl => exact h
  | step _ ih => exact go_more t f _ δ s r ih
theorem wh_eq {t : Env → Sto → Res W} {f : Env → Sto → RS} {n : Nat} {δ : Env} {s : Sto} {r : RS} (h : whGo t f n δ s = some r) : whS t f δ s = r := by
  unfold whS
  have hx : ∃ n r, whGo t f n δ s = some r := ⟨n, r, h⟩
  rw [dif_pos hx]
  have h2 := hx.choose_spec.choose_spec
  have h3 := go_le h (Nat.le_max_left n hx.choose)
  have h4 := go_le h2 (Nat.le_max_right n hx.choose)
  rw [h3] at h4
  exact (Option.some.inj h4).symm
theorem nx_while_ {t : Env → Sto → Res W} {f : Env → Sto → RS} {Q : Env → Sto → Prop} (I : Nat → Env → Sto → Prop) (hs : ∀ n δ s, I n δ s → ∃ b s1, t δ s = .ok (.d (.bl b)) s1 ∧ (if b = true then Nx (f δ s1) (fun δ' s' => ∃ m, m < n ∧ I m δ' s') else Q δ s1)) {n : Nat} (h : I n δ s) : Nx (whS t f δ s) Q := by
  have go : ∀ n δ s, I n δ s → ∃ k δ' s', whGo t f k δ s = some (.nx δ' s') ∧ Q δ' s' := by
    intro n
    induction n using Nat.strongRecOn with
    | ind n ih =>
      intro δ s h
      obtain ⟨b, s1, e, k⟩ := hs n δ s h
      cases b with
      | false =>
        rw [if_neg (by simp)] at k
        exact ⟨1, δ, s1, by unfold whGo; rw [e]; rfl, k⟩
      | true =>
        rw [if_pos rfl] at k
        obtain ⟨δ2, s2, e2, m, hm, h2⟩ := k
        obtain ⟨j, δ3, s3, e3, q⟩ := ih m hm δ2 s2 h2
        refine ⟨j + 1, δ3, s3, ?_, q⟩
        unfold whGo
        rw [e]
        simp only [truth_bl_]
        rw [e2]
        exact e3
  obtain ⟨k, δ', s', e, q⟩ := go n δ s h
  exact ⟨δ', s', wh_eq e, q⟩
theorem nx_while {t : C} {body : Ss} {Q : Env → Sto → Prop} (I : Nat → Env → Sto → Prop) (hs : ∀ n δ s, I n δ s → ∃ b s1, evC gl Φ t δ s = .ok (.d (.bl b)) s1 ∧ (if b = true then Nx (evSs gl Φ body δ s1) (fun δ' s' => ∃ m, m < n ∧ I m δ' s') else Q δ s1)) {n : Nat} (h : I n δ s) : Nx (evS gl Φ (.while_ t body) δ s) Q := by
  rw [evS_while]
  exact nx_while_ I hs h
end

/-! ### told -/
@[simp] theorem evC_told {a : C} : evC gl Φ (.told a) δ s = toldR (evC gl Φ a δ s) := by rw [evC]
@[simp] theorem toldR_ok {w : W} : toldR (.ok w s) = .ok w s := rfl
@[simp] theorem toldR_0 : toldR (.exc 0 s) = .ok (.d (.tup [.str [101, 114, 114, 111, 114], .str [73, 110, 118, 97, 108, 105, 100, 84, 97, 98, 108, 101]])) s := rfl
@[simp] theorem toldR_1 : toldR (.exc 1 s) = .ok (.d (.tup [.str [101, 114, 114, 111, 114], .str [73, 110, 118, 97, 108, 105, 100, 78, 97, 109, 101]])) s := rfl
@[simp] theorem toldR_2 : toldR (.exc 2 s) = .ok (.d (.tup [.str [101, 114, 114, 111, 114], .str [73, 110, 118, 97, 108, 105, 100, 78, 117, 109, 98, 101, 114]])) s := rfl
@[simp] theorem toldR_3 : toldR (.exc 3 s) = .ok (.d (.tup [.str [101, 114, 114, 111, 114], .str [73, 110, 118, 97, 108, 105, 100, 80, 97, 105, 114, 105, 110, 103]])) s := rfl
@[simp] theorem toldR_4 : toldR (.exc 4 s) = .ok (.d (.tup [.str [101, 114, 114, 111, 114], .str [73, 110, 118, 97, 108, 105, 100, 65, 108, 105, 103, 110, 109, 101, 110, 116]])) s := rfl
@[simp] theorem toldR_5 : toldR (.exc 5 s) = .ok (.d (.tup [.str [101, 114, 114, 111, 114], .str [73, 110, 118, 97, 108, 105, 100, 87, 101, 105, 103, 104, 116, 115]])) s := rfl
@[simp] theorem toldR_6 : toldR (.exc 6 s) = .ok (.d (.tup [.str [101, 114, 114, 111, 114], .str [73, 110, 118, 97, 108, 105, 100, 80, 108, 97, 110]])) s := rfl
@[simp] theorem toldR_7 : toldR (.exc 7 s) = .ok (.d (.tup [.str [101, 114, 114, 111, 114], .str [73, 110, 118, 97, 108, 105, 100, 83, 112, 108, 105, 116]])) s := rfl
@[simp] theorem toldR_8 : toldR (.exc 8 s) = .ok (.d (.tup [.str [101, 114, 114, 111, 114], .str [73, 110, 118, 97, 108, 105, 100, 86, 101, 114, 115, 105, 111, 110, 115]])) s := rfl
@[simp] theorem toldR_9 : toldR (.exc 9 s) = .ok (.d (.tup [.str [101, 114, 114, 111, 114], .str [66, 111, 111, 107, 70, 117, 108, 108]])) s := rfl
@[simp] theorem toldR_10 : toldR (.exc 10 s) = .ok (.d (.tup [.str [101, 114, 114, 111, 114], .str [78, 111, 116, 104, 105, 110, 103, 84, 111, 85, 110, 100, 111]])) s := rfl
@[simp] theorem toldR_11 : toldR (.exc 11 s) = .ok (.d (.tup [.str [101, 114, 114, 111, 114], .str [73, 110, 118, 97, 108, 105, 100, 84, 101, 120, 116]])) s := rfl
@[simp] theorem peek_told {a : C} {r : Res W} : peek (.told a) δ s r = r := rfl
@[simp] theorem part_told {a : C} {r : Res W} : part (.told a) s r = r.bind kPart := rfl
@[simp] theorem dOk_ss {a b c d : List Nat} : depthOk (.tup [.str a, .str b]) (.tup [.str c, .str d]) = true := rfl
/-- a loop that keeps the state and R -/
theorem for_all {tup : Bool} {tg : List Nat} {f : Env → Sto → RS} {s : Sto} (R : Env → Prop) : ∀ (ds : List D) (δ : Env), R δ →
    (∀ d ∈ ds, ∀ δ, R δ → ∃ δ1, setTg tup tg d δ = some δ1 ∧ Nx (f δ1 s) fun δ2 s2 => s2 = s ∧ R δ2) → Nx (forGo tup tg f ds δ s) fun δ2 s2 => s2 = s ∧ R δ2
  | [], δ, h, _ => ⟨δ, s, rfl, rfl, h⟩
  | d :: ds, δ, h, k => by
    obtain ⟨δ1, e1, δ2, s2, e2, rfl, h2⟩ := k d (List.mem_cons_self ..) δ h
    obtain ⟨δ3, s3, e3, h3⟩ := for_all R ds δ2 h2 fun d hd => k d (List.mem_cons_of_mem _ hd)
    refine ⟨δ3, s3, ?_, h3⟩
    rw [forGo, e1]
    simp only
    rw [e2]
    exact e3
end G
end
section
set_option Elab.async false
set_option linter.all false
set_option maxRecDepth 100000
set_option maxHeartbeats 0
namespace Hd
open PySem PySem.Spec PyProof.Rows L2 G
def top (i : Nat) : Stmt := PySem.Challenge.pw_tablediffs_k01_whole_tables.main.body.getD i (.Pass ⟨0, 0, 0, 0⟩)
def N_is_whole : List Str := ["value", "low", "high"]
def c_is_whole : G.Code := ⟨3, 3, (.cons (.ret (.and_ (.isi (.v 0) .int) (.and_ (.not_ (.isi (.v 0) .bool)) (.chain .le .le (.v 1) (.v 0) (.v 2))))) .nil)⟩
def N_is_string : List Str := ["value", "high", "signs", "sign"]
def c_is_string : G.Code := ⟨3, 4, (.cons (.ret (.and_ (.isi (.v 0) .str) (.and_ (.chain .le .le (.k (.int 1)) (.b1 .len (.v 0)) (.v 1)) (.b1 .all (.lc [3] false (.e (.v 0)) (.k (.bl true)) (.cmp .isIn (.v 3) (.v 2))))))) .nil)⟩
def N_is_name : List Str := ["value"]
def c_is_name : G.Code := ⟨1, 1, (.cons (.ret (.call 1 (.cons (.v 0) (.cons (.k (.int 4)) (.cons (.gl 0) .nil))))) .nil)⟩
def N_is_value : List Str := ["value"]
def c_is_value : G.Code := ⟨1, 1, (.cons (.ret (.or_ (.call 0 (.cons (.v 0) (.cons (.neg (.k (.int 99))) (.cons (.k (.int 99)) .nil)))) (.call 1 (.cons (.v 0) (.cons (.k (.int 7)) (.cons (.bin .add (.gl 0) (.k (.str [45]))) .nil)))))) .nil)⟩
def N_is_row : List Str := ["value", "width", "one"]
def c_is_row : G.Code := ⟨2, 3, (.cons (.ret (.and_ (.isi (.v 0) .tuple) (.and_ (.cmp .eq (.b1 .len (.v 0)) (.v 1)) (.b1 .all (.lc [2] false (.e (.v 0)) (.k (.bl true)) (.call 3 (.cons (.v 2) .nil))))))) .nil)⟩
def N_is_table : List Str := ["value", "names", "rows", "row", "name"]
def c_is_table : G.Code := ⟨1, 5, (.cons (.ife (.or_ (.not_ (.isi (.v 0) .tuple)) (.cmp .ne (.b1 .len (.v 0)) (.k (.int 2)))) (.cons (.ret (.k (.bl false))) .nil) .nil) (.cons (.unp [1, 2] (.v 0)) (.cons (.ife (.or_ (.not_ (.isi (.v 1) .tuple)) (.or_ (.not_ (.chain .le .le (.k (.int 1)) (.b1 .len (.v 1)) (.k (.int 4)))) (.not_ (.b1 .all (.lc [4] false (.e (.v 1)) (.k (.bl true)) (.call 2 (.cons (.v 4) .nil))))))) (.cons (.ret (.k (.bl false))) .nil) .nil) (.cons (.ife (.or_ (.cmp .ne (.b1 .lenset (.v 1)) (.b1 .len (.v 1))) (.or_ (.not_ (.isi (.v 2) .tuple)) (.cmp .gt (.b1 .len (.v 2)) (.k (.int 4))))) (.cons (.ret (.k (.bl false))) .nil) .nil) (.cons (.ret (.b1 .all (.lc [3] false (.e (.v 2)) (.k (.bl true)) (.call 4 (.cons (.v 3) (.cons (.b1 .len (.v 1)) .nil)))))) .nil)))))⟩
def N_need_table : List Str := ["table"]
def c_need_table : G.Code := ⟨1, 1, (.cons (.ife (.not_ (.call 5 (.cons (.v 0) .nil))) (.cons (.raise 0) .nil) .nil) .nil)⟩
def N_place_of : List Str := ["table", "name"]
def c_place_of : G.Code := ⟨2, 2, (.cons (.ife (.or_ (.not_ (.isi (.v 1) .str)) (.cmp .notIn (.v 1) (.ix (.v 0) (.k (.int 0))))) (.cons (.raise 1) .nil) .nil) (.cons (.ret (.b2 .index (.ix (.v 0) (.k (.int 0))) (.v 1))) .nil))⟩
def N_column_of : List Str := ["table", "name", "place", "row"]
def c_column_of : G.Code := ⟨2, 4, (.cons (.ex (.call 6 (.cons (.v 0) .nil))) (.cons (.asg 2 (.call 7 (.cons (.v 0) (.cons (.v 1) .nil)))) (.cons (.ret (.b1 .tuple (.lc [3] false (.e (.ix (.v 0) (.k (.int 1)))) (.k (.bl true)) (.ix (.v 3) (.v 2))))) .nil)))⟩
def N_backward : List Str := ["row"]
def c_backward : G.Code := ⟨1, 1, (.cons (.ret (.b1 .tuple (.b1 .lrev (.v 0)))) .nil)⟩
def N_turned : List Str := ["table", "row"]
def c_turned : G.Code := ⟨1, 2, (.cons (.ex (.call 6 (.cons (.v 0) .nil))) (.cons (.ret (.tup (.cons (.call 9 (.cons (.ix (.v 0) (.k (.int 0))) .nil)) (.cons (.b1 .tuple (.lc [1] false (.rev (.ix (.v 0) (.k (.int 1)))) (.k (.bl true)) (.call 9 (.cons (.v 1) .nil)))) .nil)))) .nil))⟩
def N__law_drawn : List Str := ["_law_cell_here", "_law_k", "_law_more"]
def c__law_drawn : G.Code := ⟨2, 3, (.cons (.asg 2 (.bin .mod (.bin .add (.bin .mul (.v 0) (.k (.int 6364136223846793005))) (.bin .mul (.bin .add (.v 1) (.k (.int 1))) (.k (.int 1442695040888963407)))) (.k (.int 340282366920938463463374607431768211507)))) (.cons (.asg 2 (.bin .mod (.bin .mul (.v 2) (.v 2)) (.k (.int 340282366920938463463374607431768211297)))) (.cons (.asg 2 (.bin .mul (.bin .mul (.bin .add (.bin .mod (.v 2) (.k (.int 18446744073709551557))) (.k (.int 1))) (.bin .add (.bin .fdiv (.v 2) (.k (.int 18446744073709551557))) (.k (.int 1)))) (.v 2))) (.cons (.ret (.bin .mod (.v 2) (.k (.int 340282366920938463463374607431768211507)))) .nil))))⟩
def N__law_roll : List Str := ["_law_dice", "_law_many", "_law_told_here"]
def c__law_roll : G.Code := ⟨2, 3, (.cons (.ife (.cmp .ge (.ix (.v 0) (.k (.int 0))) (.bin .pow (.k (.int 10)) (.k (.int 18)))) (.cons (.asg 2 (.bin .mod (.ix (.v 0) (.k (.int 0))) (.v 1))) (.cons (.setdice 0 0 (.bin .fdiv (.ix (.v 0) (.k (.int 0))) (.v 1))) (.cons (.ret (.v 2)) .nil))) .nil) (.cons (.setdice 0 1 (.bin .add (.ix (.v 0) (.k (.int 1))) (.k (.int 1)))) (.cons (.ret (.bin .mod (.bin .fdiv (.call 11 (.cons (.ix (.v 0) (.k (.int 0))) (.cons (.ix (.v 0) (.k (.int 1))) .nil))) (.k (.int 8))) (.v 1))) .nil)))⟩
def N__law_any_value : List Str := ["_law_dice", "_law_act"]
def c__law_any_value : G.Code := ⟨1, 2, (.cons (.asg 1 (.call 12 (.cons (.v 0) (.cons (.k (.int 8)) .nil)))) (.cons (.ife (.cmp .lt (.v 1) (.k (.int 6))) (.cons (.ret (.ix (.lst (.cons (.k (.int 0)) (.cons (.k (.int 1)) (.cons (.k (.str [120])) (.cons (.k (.int 1)) (.cons (.k (.str [120, 45, 121])) (.cons (.neg (.k (.int 7))) .nil))))))) (.v 1))) .nil) .nil) (.cons (.ret (.ife (.cmp .eq (.v 1) (.k (.int 6))) (.bin .sub (.call 12 (.cons (.v 0) (.cons (.k (.int 199)) .nil))) (.k (.int 99))) (.bin .add (.ix (.k (.str [97, 98])) (.call 12 (.cons (.v 0) (.cons (.k (.int 2)) .nil)))) (.bin .mul (.k (.str [45])) (.call 12 (.cons (.v 0) (.cons (.k (.int 3)) .nil))))))) .nil)))⟩
def N__law_any_row : List Str := ["_law_dice", "_law_width", "_law_place"]
def c__law_any_row : G.Code := ⟨2, 3, (.cons (.ret (.b1 .tuple (.lc [2] false (.rng (.v 1)) (.k (.bl true)) (.call 13 (.cons (.v 0) .nil))))) .nil)⟩
def N__law_any_names : List Str := ["_law_dice", "_law_width", "_law_left", "_law_names", "_law_place", "_law_name", "_law_one"]
def c__law_any_names : G.Code := ⟨2, 7, (.cons (.par [(2, false), (3, true)] (.cons (.lst (.cons (.k (.str [97])) (.cons (.k (.str [98])) (.cons (.k (.str [99])) (.cons (.k (.str [98, 98])) (.cons (.k (.str [97, 98, 99, 100])) .nil)))))) (.cons (.lst .nil) .nil))) (.cons (.for_ false [4] (.rng (.v 1)) (.cons (.asg 5 (.ix (.v 2) (.call 12 (.cons (.v 0) (.cons (.b1 .len (.v 2)) .nil))))) (.cons (.app 3 (.v 5)) (.cons (.asg 2 (.lc [6] false (.e (.v 2)) (.cmp .ne (.v 6) (.v 5)) (.v 6))) .nil)))) (.cons (.ret (.b1 .tuple (.v 3))) .nil)))⟩
def N__law_any_table : List Str := ["_law_dice", "_law_wide", "_law_tall", "_law_width", "_law_row"]
def c__law_any_table : G.Code := ⟨3, 5, (.cons (.asg 3 (.bin .add (.k (.int 1)) (.call 12 (.cons (.v 0) (.cons (.v 1) .nil))))) (.cons (.ret (.tup (.cons (.call 15 (.cons (.v 0) (.cons (.v 3) .nil))) (.cons (.b1 .tuple (.lc [4] false (.rng (.call 12 (.cons (.v 0) (.cons (.bin .add (.v 2) (.k (.int 1))) .nil)))) (.k (.bl true)) (.call 14 (.cons (.v 0) (.cons (.v 3) .nil))))) .nil)))) .nil))⟩
def N__law_bad_table : List Str := ["_law_dice", "_law_table", "_law_names", "_law_rows", "_law_width", "_law_bad", "_law_row"]
def c__law_bad_table : G.Code := ⟨2, 7, (.cons (.unp [2, 3] (.v 1)) (.cons (.asg 4 (.b1 .len (.v 2))) (.cons (.asg 5 (.lst (.cons (.tup (.cons (.v 2) (.cons (.bin .add (.v 3) (.tup (.cons (.bin .mul (.tup (.cons (.k (.int 0)) .nil)) (.bin .add (.v 4) (.k (.int 1)))) .nil))) .nil))) .nil))) (.cons (.asg 5 (.bin .add (.v 5) (.lst (.cons (.tup (.cons (.bin .add (.v 2) (.sl (.v 2) .nopart (.k (.int 1)))) (.cons (.b1 .tuple (.lc [6] false (.e (.v 3)) (.k (.bl true)) (.bin .add (.v 6) (.tup (.cons (.k (.int 0)) .nil))))) .nil))) .nil)))) (.cons (.asg 5 (.bin .add (.v 5) (.lst (.cons (.tup (.cons (.v 2) (.cons (.b1 .list (.v 3)) .nil))) (.cons (.tup (.cons (.tup .nil) (.cons (.tup .nil) .nil))) (.cons (.tup (.cons (.bin .add (.tup (.cons (.k (.str [97, 98, 99, 100, 101])) .nil)) (.sl (.v 2) (.k (.int 1)) .nopart)) (.cons (.v 3) .nil))) (.cons (.tup (.cons (.bin .add (.tup (.cons (.k (.str [])) .nil)) (.sl (.v 2) (.k (.int 1)) .nopart)) (.cons (.v 3) .nil))) .nil))))))) (.cons (.asg 5 (.bin .add (.v 5) (.lst (.cons (.tup (.cons (.v 2) (.cons (.tup (.cons (.bin .mul (.tup (.cons (.k (.int 100)) .nil)) (.v 4)) .nil)) .nil))) (.cons (.tup (.cons (.v 2) (.cons (.tup (.cons (.bin .mul (.tup (.cons (.k (.bl true)) .nil)) (.v 4)) .nil)) .nil))) (.cons (.tup (.cons (.v 2) (.cons (.tup (.cons (.bin .mul (.tup (.cons (.k (.str [])) .nil)) (.v 4)) .nil)) .nil))) .nil)))))) (.cons (.asg 5 (.bin .add (.v 5) (.lst (.cons (.tup (.cons (.v 2) (.cons (.tup (.cons (.bin .mul (.tup (.cons (.k (.str [97, 98, 99, 100, 101, 102, 103, 104])) .nil)) (.v 4)) .nil)) .nil))) (.cons (.tup (.cons (.v 2) (.cons (.tup (.cons (.bin .mul (.tup (.cons (.k (.str [65])) .nil)) (.v 4)) .nil)) .nil))) .nil))))) (.cons (.asg 5 (.bin .add (.v 5) (.lst (.cons (.tup (.cons (.v 2) (.cons (.bin .mul (.tup (.cons (.bin .mul (.tup (.cons (.k (.int 0)) .nil)) (.v 4)) .nil)) (.k (.int 5))) .nil))) .nil)))) (.cons (.asg 5 (.bin .add (.v 5) (.lst (.cons (.tup (.cons (.v 2) .nil)) (.cons (.v 2) (.cons (.k .non) (.cons (.tup (.cons (.tup (.cons (.k (.str [97])) (.cons (.k (.str [98])) (.cons (.k (.str [99])) (.cons (.k (.str [100])) (.cons (.k (.str [101])) .nil)))))) (.cons (.tup .nil) .nil))) (.cons (.tup (.cons (.v 2) (.cons (.tup (.cons (.bin .mul (.tup (.cons (.k .non) .nil)) (.v 4)) .nil)) .nil))) .nil)))))))) (.cons (.ret (.ix (.v 5) (.call 12 (.cons (.v 0) (.cons (.b1 .len (.v 5)) .nil))))) .nil))))))))))⟩
def N_law : List Str := ["_law_script", "_law_dice", "_law_table", "_law_names", "_law_rows", "_law_place", "_law_name", "_law_back", "_law_turn", "_law_bad", "_law_row"]
def b_law : Ss := (.cons (.asg 2 (.call 16 (.cons (.v 1) (.cons (.k (.int 4)) (.cons (.k (.int 4)) .nil))))) (.cons (.unp [3, 4] (.v 2)) (.cons (.ife (.not_ (.call 5 (.cons (.v 2) .nil))) (.cons (.ret (.k (.bl false))) .nil) .nil) (.cons (.for_ true [5, 6] (.enum (.v 3)) (.cons (.ife (.cmp .ne (.call 8 (.cons (.v 2) (.cons (.v 6) .nil))) (.b1 .tuple (.lc [10] false (.e (.v 4)) (.k (.bl true)) (.ix (.v 10) (.v 5))))) (.cons (.ret (.k (.bl false))) .nil) .nil) .nil)) (.cons (.asg 7 (.call 10 (.cons (.v 2) .nil))) (.cons (.ife (.or_ (.cmp .ne (.ix (.v 7) (.k (.int 0))) (.rev (.v 3))) (.cmp .ne (.ix (.v 7) (.k (.int 1))) (.b1 .tuple (.lc [10] false (.e (.rev (.v 4))) (.k (.bl true)) (.rev (.v 10)))))) (.cons (.ret (.k (.bl false))) .nil) .nil) (.cons (.ife (.cmp .ne (.call 10 (.cons (.v 7) .nil)) (.v 2)) (.cons (.ret (.k (.bl false))) .nil) .nil) (.cons (.for_ false [8] (.rng (.k (.int 4))) (.cons (.asg 9 (.call 17 (.cons (.v 1) (.cons (.v 2) .nil)))) (.cons (.ife (.or_ (.call 5 (.cons (.v 9) .nil)) (.cmp .ne (.told (.call 10 (.cons (.v 9) .nil))) (.tup (.cons (.k (.str [101, 114, 114, 111, 114])) (.cons (.k (.str [73, 110, 118, 97, 108, 105, 100, 84, 97, 98, 108, 101])) .nil))))) (.cons (.ret (.k (.bl false))) .nil) .nil) .nil))) (.cons (.for_ false [9] (.e (.lst (.cons (.k (.str [122, 122, 122, 122])) (.cons (.k (.str [])) (.cons (.k (.int 0)) (.cons (.k .non) (.cons (.lst (.cons (.k (.str [97])) .nil)) .nil))))))) (.cons (.ife (.cmp .ne (.told (.call 8 (.cons (.v 2) (.cons (.v 9) .nil)))) (.tup (.cons (.k (.str [101, 114, 114, 111, 114])) (.cons (.k (.str [73, 110, 118, 97, 108, 105, 100, 78, 97, 109, 101])) .nil)))) (.cons (.ret (.k (.bl false))) .nil) .nil) .nil)) .nil)))))))))
-- dice slot 1, names 11, rounds _law_rounds(_law_script, 5)
def d_is_whole : Df := ⟨"is_whole", top 16, N_is_whole, c_is_whole, false, false⟩
def d_is_string : Df := ⟨"is_string", top 17, N_is_string, c_is_string, false, false⟩
def d_is_name : Df := ⟨"is_name", top 18, N_is_name, c_is_name, false, false⟩
def d_is_value : Df := ⟨"is_value", top 19, N_is_value, c_is_value, false, false⟩
def d_is_row : Df := ⟨"is_row", top 20, N_is_row, c_is_row, false, false⟩
def d_is_table : Df := ⟨"is_table", top 21, N_is_table, c_is_table, false, false⟩
def d_need_table : Df := ⟨"need_table", top 22, N_need_table, c_need_table, false, false⟩
def d_place_of : Df := ⟨"place_of", top 23, N_place_of, c_place_of, false, false⟩
def d_column_of : Df := ⟨"column_of", top 24, N_column_of, c_column_of, false, false⟩
def d_backward : Df := ⟨"backward", top 25, N_backward, c_backward, false, false⟩
def d_turned : Df := ⟨"turned", top 26, N_turned, c_turned, false, false⟩
def d__law_drawn : Df := ⟨"_law_drawn", top 29, N__law_drawn, c__law_drawn, false, false⟩
def d__law_roll : Df := ⟨"_law_roll", top 30, N__law_roll, c__law_roll, false, false⟩
def d__law_any_value : Df := ⟨"_law_any_value", top 34, N__law_any_value, c__law_any_value, false, false⟩
def d__law_any_row : Df := ⟨"_law_any_row", top 35, N__law_any_row, c__law_any_row, false, false⟩
def d__law_any_names : Df := ⟨"_law_any_names", top 36, N__law_any_names, c__law_any_names, false, false⟩
def d__law_any_table : Df := ⟨"_law_any_table", top 37, N__law_any_table, c__law_any_table, false, false⟩
def d__law_bad_table : Df := ⟨"_law_bad_table", top 38, N__law_bad_table, c__law_bad_table, false, false⟩
def dfs : List Df := [d_is_whole, d_is_string, d_is_name, d_is_value, d_is_row, d_is_table, d_need_table, d_place_of, d_column_of, d_backward, d_turned, d__law_drawn, d__law_roll, d__law_any_value, d__law_any_row, d__law_any_names, d__law_any_table, d__law_bad_table]
def d__law_cell : Df := ⟨"_law_cell", top 28, ["_law_script", "_law_k"], ⟨2, 2, .nil⟩, false, false⟩
def d__law_rounds : Df := ⟨"_law_rounds", top 31, ["_law_script", "_law_most", "_law_k"], ⟨2, 3, .nil⟩, false, false⟩
def d__law_told : Df := ⟨"_law_told", top 33, ["_law_deed", "_law_e"], ⟨1, 2, .nil⟩, false, false⟩
def d__law_term : Df := ⟨"_law_term", top 32, ["_law_e", "_law_flags", "_law_kinds", "_law_flag"], ⟨1, 4, .nil⟩, false, false⟩
def d_law : Df := ⟨"law", top 39, N_law, ⟨1, 11, .nil⟩, false, true⟩
def di : Nat := 1
def gll : List (Str × Nat) := [("SMALL", 0)]
def gl : Nat → G.D := fun n => match n with
  | 0 => .str [97, 98, 99, 100, 101, 102, 103, 104, 105, 106, 107, 108, 109, 110, 111, 112, 113, 114, 115, 116, 117, 118, 119, 120, 121, 122]
  | _ => .non
def frl : List Str := ["ValueError", "all", "bool", "enumerate", "int", "isinstance", "len", "list", "max", "min", "range", "reversed", "set", "str", "sum", "tuple"]
def kt0 : Kt := ⟨[], gll, exl, frl, true⟩
end Hd
end
section
set_option Elab.async false
set_option linter.all false
set_option maxRecDepth 100000
set_option maxHeartbeats 0
namespace Hd
open G
abbrev q_is_whole : Nat := 0
abbrev q_is_string : Nat := 1
abbrev q_is_name : Nat := 2
abbrev q_is_value : Nat := 3
abbrev q_is_row : Nat := 4
abbrev q_is_table : Nat := 5
abbrev q_need_table : Nat := 6
abbrev q_place_of : Nat := 7
abbrev q_column_of : Nat := 8
abbrev q_backward : Nat := 9
abbrev q_turned : Nat := 10
abbrev q__law_drawn : Nat := 11
abbrev q__law_roll : Nat := 12
abbrev q__law_any_value : Nat := 13
abbrev q__law_any_row : Nat := 14
abbrev q__law_any_names : Nat := 15
abbrev q__law_any_table : Nat := 16
abbrev q__law_bad_table : Nat := 17
noncomputable def e_is_whole : List Fn := []
noncomputable def f_is_whole : Fn := evF gl (PP e_is_whole) c_is_whole
noncomputable def e_is_string : List Fn := [f_is_whole]
noncomputable def f_is_string : Fn := evF gl (PP e_is_string) c_is_string
noncomputable def e_is_name : List Fn := [f_is_whole, f_is_string]
noncomputable def f_is_name : Fn := evF gl (PP e_is_name) c_is_name
@[simp] theorem k_is_name_is_string : PP e_is_name 1 = some f_is_string := rfl
noncomputable def e_is_value : List Fn := [f_is_whole, f_is_string, f_is_name]
noncomputable def f_is_value : Fn := evF gl (PP e_is_value) c_is_value
@[simp] theorem k_is_value_is_whole : PP e_is_value 0 = some f_is_whole := rfl
@[simp] theorem k_is_value_is_string : PP e_is_value 1 = some f_is_string := rfl
noncomputable def e_is_row : List Fn := [f_is_whole, f_is_string, f_is_name, f_is_value]
noncomputable def f_is_row : Fn := evF gl (PP e_is_row) c_is_row
@[simp] theorem k_is_row_is_value : PP e_is_row 3 = some f_is_value := rfl
noncomputable def e_is_table : List Fn := [f_is_whole, f_is_string, f_is_name, f_is_value, f_is_row]
noncomputable def f_is_table : Fn := evF gl (PP e_is_table) c_is_table
@[simp] theorem k_is_table_is_name : PP e_is_table 2 = some f_is_name := rfl
@[simp] theorem k_is_table_is_row : PP e_is_table 4 = some f_is_row := rfl
noncomputable def e_need_table : List Fn := [f_is_whole, f_is_string, f_is_name, f_is_value, f_is_row, f_is_table]
noncomputable def f_need_table : Fn := evF gl (PP e_need_table) c_need_table
@[simp] theorem k_need_table_is_table : PP e_need_table 5 = some f_is_table := rfl
noncomputable def e_place_of : List Fn := [f_is_whole, f_is_string, f_is_name, f_is_value, f_is_row, f_is_table, f_need_table]
noncomputable def f_place_of : Fn := evF gl (PP e_place_of) c_place_of
noncomputable def e_column_of : List Fn := [f_is_whole, f_is_string, f_is_name, f_is_value, f_is_row, f_is_table, f_need_table, f_place_of]
noncomputable def f_column_of : Fn := evF gl (PP e_column_of) c_column_of
@[simp] theorem k_column_of_need_table : PP e_column_of 6 = some f_need_table := rfl
@[simp] theorem k_column_of_place_of : PP e_column_of 7 = some f_place_of := rfl
noncomputable def e_backward : List Fn := [f_is_whole, f_is_string, f_is_name, f_is_value, f_is_row, f_is_table, f_need_table, f_place_of, f_column_of]
noncomputable def f_backward : Fn := evF gl (PP e_backward) c_backward
noncomputable def e_turned : List Fn := [f_is_whole, f_is_string, f_is_name, f_is_value, f_is_row, f_is_table, f_need_table, f_place_of, f_column_of, f_backward]
noncomputable def f_turned : Fn := evF gl (PP e_turned) c_turned
@[simp] theorem k_turned_need_table : PP e_turned 6 = some f_need_table := rfl
@[simp] theorem k_turned_backward : PP e_turned 9 = some f_backward := rfl
noncomputable def e__law_drawn : List Fn := [f_is_whole, f_is_string, f_is_name, f_is_value, f_is_row, f_is_table, f_need_table, f_place_of, f_column_of, f_backward, f_turned]
noncomputable def f__law_drawn : Fn := evF gl (PP e__law_drawn) c__law_drawn
noncomputable def e__law_roll : List Fn := [f_is_whole, f_is_string, f_is_name, f_is_value, f_is_row, f_is_table, f_need_table, f_place_of, f_column_of, f_backward, f_turned, f__law_drawn]
noncomputable def f__law_roll : Fn := evF gl (PP e__law_roll) c__law_roll
@[simp] theorem k__law_roll__law_drawn : PP e__law_roll 11 = some f__law_drawn := rfl
noncomputable def e__law_any_value : List Fn := [f_is_whole, f_is_string, f_is_name, f_is_value, f_is_row, f_is_table, f_need_table, f_place_of, f_column_of, f_backward, f_turned, f__law_drawn, f__law_roll]
noncomputable def f__law_any_value : Fn := evF gl (PP e__law_any_value) c__law_any_value
@[simp] theorem k__law_any_value__law_roll : PP e__law_any_value 12 = some f__law_roll := rfl
noncomputable def e__law_any_row : List Fn := [f_is_whole, f_is_string, f_is_name, f_is_value, f_is_row, f_is_table, f_need_table, f_place_of, f_column_of, f_backward, f_turned, f__law_drawn, f__law_roll, f__law_any_value]
noncomputable def f__law_any_row : Fn := evF gl (PP e__law_any_row) c__law_any_row
@[simp] theorem k__law_any_row__law_any_value : PP e__law_any_row 13 = some f__law_any_value := rfl
noncomputable def e__law_any_names : List Fn := [f_is_whole, f_is_string, f_is_name, f_is_value, f_is_row, f_is_table, f_need_table, f_place_of, f_column_of, f_backward, f_turned, f__law_drawn, f__law_roll, f__law_any_value, f__law_any_row]
noncomputable def f__law_any_names : Fn := evF gl (PP e__law_any_names) c__law_any_names
@[simp] theorem k__law_any_names__law_roll : PP e__law_any_names 12 = some f__law_roll := rfl
noncomputable def e__law_any_table : List Fn := [f_is_whole, f_is_string, f_is_name, f_is_value, f_is_row, f_is_table, f_need_table, f_place_of, f_column_of, f_backward, f_turned, f__law_drawn, f__law_roll, f__law_any_value, f__law_any_row, f__law_any_names]
noncomputable def f__law_any_table : Fn := evF gl (PP e__law_any_table) c__law_any_table
@[simp] theorem k__law_any_table__law_roll : PP e__law_any_table 12 = some f__law_roll := rfl
@[simp] theorem k__law_any_table__law_any_row : PP e__law_any_table 14 = some f__law_any_row := rfl
@[simp] theorem k__law_any_table__law_any_names : PP e__law_any_table 15 = some f__law_any_names := rfl
noncomputable def e__law_bad_table : List Fn := [f_is_whole, f_is_string, f_is_name, f_is_value, f_is_row, f_is_table, f_need_table, f_place_of, f_column_of, f_backward, f_turned, f__law_drawn, f__law_roll, f__law_any_value, f__law_any_row, f__law_any_names, f__law_any_table]
noncomputable def f__law_bad_table : Fn := evF gl (PP e__law_bad_table) c__law_bad_table
@[simp] theorem k__law_bad_table__law_roll : PP e__law_bad_table 12 = some f__law_roll := rfl
noncomputable def fall : List Fn := [f_is_whole, f_is_string, f_is_name, f_is_value, f_is_row, f_is_table, f_need_table, f_place_of, f_column_of, f_backward, f_turned, f__law_drawn, f__law_roll, f__law_any_value, f__law_any_row, f__law_any_names, f__law_any_table, f__law_bad_table]
noncomputable def e_law : List Fn := fall
@[simp] theorem k_law_is_table : PP e_law 5 = some f_is_table := rfl
@[simp] theorem k_law_column_of : PP e_law 8 = some f_column_of := rfl
@[simp] theorem k_law_turned : PP e_law 10 = some f_turned := rfl
@[simp] theorem k_law__law_any_table : PP e_law 16 = some f__law_any_table := rfl
@[simp] theorem k_law__law_bad_table : PP e_law 17 = some f__law_bad_table := rfl
end Hd
end
section
set_option Elab.async false
set_option linter.all false
set_option maxRecDepth 100000
namespace Hd
open G
def Dc (s : Sto) : Prop := ∃ c m, s.dice = some (c, m)
theorem log_le {n k : Nat} (h : n < 2 ^ k) (hk : 0 < k) : n.log2 < k := by
  by_cases h0 : n = 0
  · subst h0; simpa using hk
  · exact (Nat.log2_lt h0).mpr h
theorem mul_small {i j : Int} (h1 : i.natAbs < 2 ^ 250) (h2 : j.natAbs < 2 ^ 250) : mulOk i j = true := by
  unfold mulOk
  have a := log_le h1 (by decide)
  have b := log_le h2 (by decide)
  have : decide (i.natAbs.log2 + j.natAbs.log2 < 1000000) = true := decide_eq_true (by omega)
  rw [this, Bool.or_true]
theorem mul_right {i j : Int} (h : j.natAbs < 18446744073709551616) : mulOk i j = true := by
  unfold mulOk
  rw [decide_eq_true h, Bool.or_true, Bool.true_or]
theorem md (a : Int) {m : Int} (h : 0 < m) : 0 ≤ a % m ∧ a % m < m := ⟨Int.emod_nonneg _ (by omega), Int.emod_lt_of_pos _ h⟩
theorem abs_lt {i m : Int} (h0 : 0 ≤ i) (h1 : i < m) {k : Nat} (hm : m ≤ (k : Int)) : i.natAbs < k := by omega
theorem s_drawn (c k : Int) (s : Sto) : ∃ r : Int, 0 ≤ r ∧ f__law_drawn [.d (.int c), .d (.int k)] s = .ok (.d (.int r)) s := by
  unfold f__law_drawn
  rw [evF_eq rfl]
  have p1 : (0 : Int) < 340282366920938463463374607431768211507 := by decide
  have p2 : (0 : Int) < 340282366920938463463374607431768211297 := by decide
  have p3 : (0 : Int) < 18446744073709551557 := by decide
  have m1 : mulOk c 6364136223846793005 = true := mul_right (by decide)
  have m2 : mulOk (k + 1) 1442695040888963407 = true := mul_right (by decide)
  obtain ⟨a0, a1⟩ := md (c * 6364136223846793005 + (k + 1) * 1442695040888963407) p1
  have step1 : ∀ x, (c * 6364136223846793005 + (k + 1) * 1442695040888963407) % 340282366920938463463374607431768211507 = x → 0 ≤ x → x < 340282366920938463463374607431768211507 → mulOk x x = true := fun x _ h0 h1 =>
    mul_small (abs_lt h0 h1 (by decide)) (abs_lt h0 h1 (by decide))
  have m3 := step1 _ rfl a0 a1
  generalize hx : (c * 6364136223846793005 + (k + 1) * 1442695040888963407) % 340282366920938463463374607431768211507 = x at a0 a1 m3
  obtain ⟨b0, b1⟩ := md (x * x) p2
  generalize hy : x * x % 340282366920938463463374607431768211297 = y at b0 b1
  obtain ⟨d0, d1⟩ := md y p3
  have e0 : 0 ≤ y / 18446744073709551557 := Int.ediv_nonneg b0 (by decide)
  have e1 : y / 18446744073709551557 < 18446744073709552000 := Int.ediv_lt_of_lt_mul p3 (by omega)
  have m4 : mulOk (y % 18446744073709551557 + 1) (y / 18446744073709551557 + 1) = true := mul_small (abs_lt (by omega) (show _ < (18446744073709552000 : Int) by omega) (by decide)) (abs_lt (by omega) (show _ < (18446744073709552000 : Int) by omega) (by decide))
  have f0 : 0 ≤ (y % 18446744073709551557 + 1) * (y / 18446744073709551557 + 1) := Int.mul_nonneg (by omega) (by omega)
  have f1 : (y % 18446744073709551557 + 1) * (y / 18446744073709551557 + 1) ≤ 18446744073709552000 * 18446744073709552000 := Int.mul_le_mul (by omega) (by omega) (by omega) (by decide)
  have m5 : mulOk ((y % 18446744073709551557 + 1) * (y / 18446744073709551557 + 1)) y = true := mul_small (abs_lt f0 (Int.lt_add_one_of_le f1) (by decide)) (abs_lt b0 b1 (by decide))
  refine ⟨(y % 18446744073709551557 + 1) * (y / 18446744073709551557 + 1) * y % 340282366920938463463374607431768211507, (md _ p1).1, ?_⟩
  have dv : divOk 18446744073709551557 = true := div_small (by decide) (by decide)
  simp [c__law_drawn, m1, m2, hx, m3, hy, m4, m5, dv]
theorem s_roll (s : Sto) (h : Dc s) (m : Int) (hm : 0 < m) (hm2 : m < 1000000) : ∃ (r : Int) (s' : Sto), 0 ≤ r ∧ r < m ∧ Dc s' ∧ f__law_roll [.dice, .d (.int m)] s = .ok (.d (.int r)) s' := by
  obtain ⟨c, k, hd⟩ := h
  unfold f__law_roll
  rw [evF_eq rfl]
  have hdiv : divOk m = true := by
    unfold divOk
    rw [decide_eq_true hm, Bool.true_and]
    exact decide_eq_true (Nat.lt_of_lt_of_le (log_le (n := m.natAbs) (k := 20) (by omega) (by decide)) (by decide))
  obtain ⟨r, hr, e⟩ := s_drawn c (k + 1) { s with dice := some (c, k + 1) }
  by_cases hc : 1000000000000000000 ≤ c
  · refine ⟨c % m, { s with dice := some (c / m, k) }, (md c hm).1, (md c hm).2, ⟨_, _, rfl⟩, ?_⟩
    simp [c__law_roll, peek, ixR, sDice, hd, hc, hm, hdiv]
  · refine ⟨r / 8 % m, { s with dice := some (c, k + 1) }, (md _ hm).1, (md _ hm).2, ⟨c, k + 1, rfl⟩, ?_⟩
    have dv : divOk 8 = true := div_small (by decide) (by decide)
    simp [c__law_roll, peek, ixR, sDice, hd, hc, hm, hdiv, e, dv]
def smallL : List Nat := [97, 98, 99, 100, 101, 102, 103, 104, 105, 106, 107, 108, 109, 110, 111, 112, 113, 114, 115, 116, 117, 118, 119, 120, 121, 122]
def isVal : D → Bool
  | .int i => decide (-99 ≤ i) && decide (i ≤ 99)
  | .str x => decide (1 ≤ x.length) && decide (x.length ≤ 7) && x.all fun c => (smallL ++ [45]).contains c
  | _ => false
def isNm : D → Bool
  | .str x => decide (1 ≤ x.length) && decide (x.length ≤ 4) && x.all fun c => smallL.contains c
  | _ => false
theorem cases6 {r : Int} (h0 : 0 ≤ r) (h1 : r < 6) : r = 0 ∨ r = 1 ∨ r = 2 ∨ r = 3 ∨ r = 4 ∨ r = 5 := by omega
theorem s_any_value (s : Sto) (h : Dc s) : ∃ v s', isVal v = true ∧ Dc s' ∧ f__law_any_value [.dice] s = .ok (.d v) s' := by
  unfold f__law_any_value
  rw [evF_eq rfl]
  obtain ⟨r, s1, h0, h1, d1, e1⟩ := s_roll s h 8 (by decide) (by decide)
  by_cases hr : r < 6
  · have hs : ∃ v, isVal v = true ∧ getI [D.int 0, .int 1, .str [120], .int 1, .str [120, 45, 121], .int (-7)] r = some v := by
      rcases cases6 h0 hr with rfl | rfl | rfl | rfl | rfl | rfl <;> exact ⟨_, by decide, rfl⟩
    obtain ⟨v, hv, e⟩ := hs
    exact ⟨v, s1, hv, d1, by simp [c__law_any_value, e1, peek, hr, lim, e]⟩
  · by_cases h6 : r = 6
    · subst h6
      obtain ⟨q, s2, q0, q1, d2, e2⟩ := s_roll s1 d1 199 (by decide) (by decide)
      refine ⟨.int (q - 99), s2, ?_, d2, by simp [c__law_any_value, e1, e2, peek, eqD]⟩
      unfold isVal
      rw [Bool.and_eq_true, decide_eq_true_eq, decide_eq_true_eq]
      omega
    · have h7 : r = 7 := by omega
      subst h7
      obtain ⟨q, s2, q0, q1, d2, e2⟩ := s_roll s1 d1 2 (by decide) (by decide)
      obtain ⟨p, s3, p0, p1, d3, e3⟩ := s_roll s2 d2 3 (by decide) (by decide)
      have hq : ∃ c, getI [97, 98] q = some c ∧ smallL.contains c = true := by
        have : q = 0 ∨ q = 1 := by omega
        rcases this with rfl | rfl
        · exact ⟨97, rfl, by decide⟩
        · exact ⟨98, rfl, by decide⟩
      obtain ⟨c, hc, hcs⟩ := hq
      have hlen : (rep p.toNat [45]).length = p.toNat := by simp [rep]
      refine ⟨.str ([c] ++ rep p.toNat [45]), s3, ?_, d3, ?_⟩
      · have : p = 0 ∨ p = 1 ∨ p = 2 := by omega
        have hc2 : (smallL ++ [45]).contains c = true := by
          rw [List.contains_iff_mem] at hcs ⊢
          exact List.mem_append_left _ hcs
        rcases this with rfl | rfl | rfl <;> simp [isVal, rep, List.replicate] <;> simpa using hc2
      · have h3 : p ≤ 1000 := by omega
        have h4 : p.toNat + 1 ≤ lim := by unfold lim; omega
        simp [c__law_any_value, e1, e2, e3, peek, eqD, hc, lim, p0, h3, hlen]
        rw [if_pos (by unfold lim at h4; omega)]
        rfl
theorem s_any_row (s : Sto) (h : Dc s) (w : Int) (h0 : 0 ≤ w) (h1 : w ≤ 1000) : Gv (f__law_any_row [.dice, .d (.int w)] s) fun v s' => ∃ ds : List D, v = .d (.tup ds) ∧ ds.length = w.toNat ∧ (∀ d ∈ ds, isVal d = true) ∧ Dc s' := by
  unfold f__law_any_row
  rw [evF_eq rfl]
  simp [c__law_any_row, peek, rng_ok (by decide : (0 : Int) ≤ 0) (by decide) h0 h1]
  generalize hX : noExc (lcGo _ _ _ _) = X
  have hG : Gv X fun ys s' => ys.length = w.toNat ∧ (∀ d ∈ ys, isVal d = true) ∧ Dc s' := by
    rw [← hX]
    refine gv_lc (P := Dc) (R := fun _ y => isVal y = true) h ?_ ?_ ?_
    · intro d hd s hs
      obtain ⟨v, s', hv, hd', e⟩ := s_any_value s hs
      exact ⟨some v, s', by simp [e], v, rfl, hd', hv⟩
    · rw [range_len]; unfold lim; omega
    · intro ys s' hp hr
      exact ⟨by rw [hr.len, range_len, Int.sub_zero], fun d hd => (hr.right d hd).elim fun _ h => h.2, hp⟩
  obtain ⟨ys, s', rfl, h1, h2, h3⟩ := hG
  simp
  exact Gv.ok ⟨ys, rfl, h1, h2, h3⟩
/-! ### names -/
def fiveS : List (List Nat) := [[97], [98], [99], [98, 98], [97, 98, 99, 100]]
theorem getI_nat {α : Type} (xs : List α) (i : Int) (h0 : 0 ≤ i) (h1 : i < xs.length) : ∃ x, getI xs i = some x ∧ x ∈ xs := by
  unfold getI place
  rw [if_pos h0, if_pos h1]
  have hl : i.toNat < xs.length := by omega
  exact ⟨xs[i.toNat], by simp [hl], List.getElem_mem hl⟩
theorem perm_pick {α : Type} [BEq α] [LawfulBEq α] {x : α} : ∀ {l : List α}, l.Nodup → x ∈ l → (x :: l.filter (· != x)).Perm l
  | y :: l, hn, hx => by
    rw [List.nodup_cons] at hn
    by_cases h : y = x
    · subst h
      rw [List.filter_cons_of_neg (by simp), List.filter_eq_self.mpr fun a ha => by
        simp only [bne_iff_ne, ne_eq]
        intro z
        exact hn.1 (z ▸ ha)]
    · rw [List.filter_cons_of_pos (by simpa using h)]
      have hx' : x ∈ l := by
        rcases List.mem_cons.mp hx with z | z
        · exact absurd z.symm h
        · exact z
      exact (List.Perm.swap y x _).trans ((perm_pick hn.2 hx').cons y)
theorem s_any_names (s : Sto) (h : Dc s) (w : Int) (h0 : 0 ≤ w) (h1 : w ≤ 4) : Gv (f__law_any_names [.dice, .d (.int w)] s) fun v s' => ∃ ns : List (List Nat), v = .d (.tup (ns.map D.str)) ∧ ns.length = w.toNat ∧ (∃ left, (ns ++ left).Perm fiveS) ∧ Dc s' := by
  unfold f__law_any_names
  rw [evF_eq rfl]
  simp [c__law_any_names, peek, lim, setPar, ownOf, rng_ok (by decide : (0 : Int) ≤ 0) (by decide) h0 (by omega : w ≤ 1000)]
  refine Gv.nx (Q1 := fun δ s => Dc s ∧ ∃ (left ns : List (List Nat)) (a b c : Slot), δ = [.w .dice, .w (.d (.int w)), .w (.d (.lst (left.map D.str))), .own (ns.map D.str), a, b, c] ∧ ns.length = w.toNat ∧ (ns ++ left).Perm fiveS) ?_ ?_
  · have hr := range_len 0 w
    rw [Int.sub_zero] at hr
    refine (nx_for (fun i δ s => Dc s ∧ ∃ (left ns : List (List Nat)) (a b c : Slot), δ = [.w .dice, .w (.d (.int w)), .w (.d (.lst (left.map D.str))), .own (ns.map D.str), a, b, c] ∧ ns.length = i ∧ (ns ++ left).Perm fiveS) (rangeD 0 w) 0 _ s ⟨h, fiveS, [], .no, .no, .no, rfl, rfl, List.Perm.refl _⟩ ?_).mono fun δ s hI => by rw [hr, Nat.zero_add] at hI; exact hI
    rintro i d δ s hi ⟨hd, left, ns, a, b, c, rfl, hl, hp⟩
    have hi : i < w.toNat := by rw [← hr]; exact (List.getElem?_eq_some_iff.mp hi).1
    have hlen : ns.length + left.length = 5 := by
      have := hp.length_eq
      rw [List.length_append] at this
      exact this
    obtain ⟨r, s1, r0, r1, d1, e⟩ := s_roll s hd (left.length : Int) (by omega) (by omega)
    obtain ⟨x, hx, hm⟩ := getI_nat left r r0 r1
    have hnd : left.Nodup := (List.nodup_append.mp (hp.nodup_iff.mpr (by decide : fiveS.Nodup))).2.1
    refine ⟨_, rfl, ?_⟩
    have hns : ns.length < lim := by unfold lim; omega
    simp [peek, b1R, e, getI_map hx, hns]
    rw [lc_filter (enc := D.str) (g := D.str) (p := fun y => y != x) (fun y hy => ?_) (by unfold lim; omega)]
    · simp
      refine Nx.of rfl ⟨d1, left.filter (· != x), ns ++ [x], ⟨_, _, _, by simp; exact ⟨rfl, rfl, rfl⟩⟩, by simp [hl], ?_⟩
      have h5 := (List.perm_append_comm (l₁ := ns) (l₂ := [x])).append_right (left.filter (· != x))
      rw [List.append_assoc]
      exact ((perm_pick hnd hm).append_left ns).trans hp
    · simp [setTg, depthOk, depth, eqD_str]
      by_cases hyx : y = x
      · subst hyx; simp
      · have hb : (y == x) = false := by simpa using hyx
        simp [hb, hyx]
  · rintro δ s ⟨hd, left, ns, a, b, c, rfl, h2, h3⟩
    simp [peek, b1R]
    exact Gv.ok ⟨ns, rfl, h2, ⟨left, h3⟩, hd⟩
/-! ### tables -/
structure Tb where
  ns : List (List Nat)
  rs : List (List D)
abbrev encT (t : Tb) : D := .tup [.tup (t.ns.map D.str), .tup (t.rs.map D.tup)]
structure TOk (t : Tb) (wide tall : Nat) : Prop where
  one : 1 ≤ t.ns.length
  wide : t.ns.length ≤ wide
  tall : t.rs.length ≤ tall
  nd : t.ns.Nodup
  nm : ∀ n ∈ t.ns, isNm (.str n) = true
  row : ∀ r ∈ t.rs, r.length = t.ns.length
  val : ∀ r ∈ t.rs, ∀ d ∈ r, isVal d = true
theorem five_sub {ns left : List (List Nat)} (h : (ns ++ left).Perm fiveS) : ns.Nodup ∧ ∀ n ∈ ns, isNm (.str n) = true := by
  refine ⟨(List.nodup_append.mp (h.nodup_iff.mpr (by decide : fiveS.Nodup))).1, fun n hn => ?_⟩
  have : n ∈ fiveS := h.mem_iff.mp (List.mem_append_left _ hn)
  have hall : ∀ m ∈ fiveS, isNm (.str m) = true := by decide
  exact hall n this
/-- rows as they are told -/
theorem rows_of {w : Nat} : ∀ {xs ys : List D}, All2 (fun _ y => ∃ ds : List D, y = .tup ds ∧ ds.length = w ∧ ∀ d ∈ ds, isVal d = true) xs ys → ∃ rs : List (List D), ys = rs.map D.tup ∧ rs.length = xs.length ∧ ∀ r ∈ rs, r.length = w ∧ ∀ d ∈ r, isVal d = true
  | _, _, .nil => ⟨[], rfl, rfl, by simp⟩
  | _, _, .cons ⟨ds, e, h1, h2⟩ t => by
    obtain ⟨rs, e2, h3, h4⟩ := rows_of t
    refine ⟨ds :: rs, by rw [e, e2]; rfl, by rw [List.length_cons, List.length_cons, h3], fun r hr => ?_⟩
    rcases List.mem_cons.mp hr with rfl | hr
    · exact ⟨h1, h2⟩
    · exact h4 r hr
theorem s_any_table (s : Sto) (h : Dc s) (wide tall : Int) (h0 : 1 ≤ wide) (h1 : wide ≤ 4) (h2 : 0 ≤ tall) (h3 : tall ≤ 4) : Gv (f__law_any_table [.dice, .d (.int wide), .d (.int tall)] s) fun v s' => ∃ t, v = .d (encT t) ∧ TOk t wide.toNat tall.toNat ∧ Dc s' := by
  unfold f__law_any_table
  rw [evF_eq rfl]
  obtain ⟨r, s1, r0, r1, d1, e1⟩ := s_roll s h wide (by omega) (by omega)
  obtain ⟨v, s2, e2, ns, rfl, n1, ⟨left, n2⟩, d2⟩ := s_any_names s1 d1 (1 + r) (by omega) (by omega)
  obtain ⟨q, s3, q0, q1, d3, e3⟩ := s_roll s2 d2 (tall + 1) (by omega) (by omega)
  simp [c__law_any_table, peek, e1, e2, e3, rng_ok (by decide : (0 : Int) ≤ 0) (by decide) q0 (by omega : q ≤ 1000), lim]
  generalize hX : noExc (lcGo _ _ _ _) = X
  have hG : Gv X fun ys s' => ∃ rs : List (List D), ys = rs.map D.tup ∧ rs.length = q.toNat ∧ (∀ r ∈ rs, r.length = ns.length ∧ ∀ d ∈ r, isVal d = true) ∧ Dc s' := by
    rw [← hX]
    refine gv_lc (P := Dc) (R := fun _ y => ∃ ds : List D, y = .tup ds ∧ ds.length = ns.length ∧ ∀ d ∈ ds, isVal d = true) d3 ?_ ?_ ?_
    · intro d hd s hs
      obtain ⟨v, s', e, ds, rfl, l1, l2, l3⟩ := s_any_row s hs (1 + r) (by omega) (by omega)
      exact ⟨some (.tup ds), s', by simp [e], .tup ds, rfl, l3, ds, rfl, by rw [l1, n1], l2⟩
    · rw [range_len]; unfold lim; omega
    · intro ys s' hp hr
      obtain ⟨rs, e, l1, l2⟩ := rows_of hr
      exact ⟨rs, e, by rw [l1, range_len, Int.sub_zero], l2, hp⟩
  obtain ⟨_, s', rfl, rs, rfl, l1, l2, l3⟩ := hG
  simp
  obtain ⟨f1, f2⟩ := five_sub n2
  exact Gv.ok ⟨⟨ns, rs⟩, rfl, ⟨by show 1 ≤ ns.length; omega, by show ns.length ≤ _; omega, by show rs.length ≤ _; omega, f1, f2, fun r hr => (l2 r hr).1, fun r hr => (l2 r hr).2⟩, l3⟩
/-! ### shuffled -/
def dn (n : Nat) : D := .int n
theorem dn_def (n : Nat) : dn n = .int n := rfl
theorem range_dn (n : Nat) : rangeD 0 (n : Int) = (List.range n).map dn := by
  unfold rangeD
  rw [Int.sub_zero, Int.toNat_natCast]
  congr 1
  funext i
  show D.int (0 + (i : Int)) = D.int i
  rw [Int.zero_add]
theorem eqD_dn (a b : Nat) : eqD (dn a) (dn b) = (a == b) := by
  show eqD (.int a) (.int b) = _
  rw [eqD]
  by_cases h : a = b
  · subst h; simp
  · have h1 : ((a : Int) == (b : Int)) = false := by simpa using (by omega : ¬ (a : Int) = b)
    have h2 : (a == b) = false := by simpa using h
    rw [h1, h2]
/-! ### near -/
/-- a test, and then a roll -/
theorem s_cond {Φ : Nat → Option Fn} {δ : Env} {s : Sto} {a : C} {b : Bool} {q di : Nat} {m : Int} (e : evC gl Φ a δ s = .ok (.d (.bl b)) s) (hq : Φ q = some f__law_roll) (h0 : δ[di]? = some (.w .dice)) (hd : Dc s) (h1 : 0 < m) (h2 : m < 1000000) :
    ∃ b' s', Dc s' ∧ (b' = true → b = true) ∧ evC gl Φ (.and_ a (.cmp .eq (.call q (.cons (.v di) (.cons (.k (.int m)) .nil))) (.k (.int 0)))) δ s = .ok (.d (.bl b')) s' := by
  cases b with
  | false => exact ⟨false, s, hd, fun h => h, by simp [e]⟩
  | true =>
    obtain ⟨r, s1, r0, r1, d1, e1⟩ := s_roll s hd m h1 h2
    exact ⟨eqD (.int r) (.int 0), s1, d1, fun _ => rfl, by simp [e, h0, hq, e1]⟩
theorem nx_if {Φ : Nat → Option Fn} {δ : Env} {s s' : Sto} {t : C} {x y : Ss} {b : Bool} {Q : Env → Sto → Prop} (e : evC gl Φ t δ s = .ok (.d (.bl b)) s') (h1 : b = true → Nx (evSs gl Φ x δ s') Q) (h2 : b = false → Nx (evSs gl Φ y δ s') Q) : Nx (evS gl Φ (.ife t x y) δ s) Q := by
  rw [evS_ife, e, toS_ok]
  cases b with
  | true => exact h1 rfl
  | false => exact h2 rfl
theorem gv_st {Φ : Nat → Option Fn} {δ : Env} {s : Sto} {a : S} {b : Ss} {Q1 : Env → Sto → Prop} {Q : W → Sto → Prop} (h : Nx (evS gl Φ a δ s) Q1) (k : ∀ δ s, Q1 δ s → Gv (outR (evSs gl Φ b δ s)) Q) : Gv (outR (evSs gl Φ (.cons a b) δ s)) Q := by
  rw [evSs_cons]
  exact Gv.nx h k
theorem nx_st {Φ : Nat → Option Fn} {δ : Env} {s : Sto} {a : S} {b : Ss} {Q1 : Env → Sto → Prop} {Q : Env → Sto → Prop} (h : Nx (evS gl Φ a δ s) Q1) (k : ∀ δ s, Q1 δ s → Nx (evSs gl Φ b δ s) Q) : Nx (evSs gl Φ (.cons a b) δ s) Q := by
  rw [evSs_cons]
  exact Nx.then_ h k
/-! ### weights, two tables -/
structure WOk (w : List Int) : Prop where
  len : w.length = 5
  lo : ∀ x ∈ w, 1 ≤ x
  hi : ∀ x ∈ w, x ≤ 9
theorem ints_of {P : Int → Prop} : ∀ {xs ys : List D}, All2 (fun _ y => ∃ i : Int, y = .int i ∧ P i) xs ys → ∃ is : List Int, ys = is.map D.int ∧ is.length = xs.length ∧ ∀ i ∈ is, P i
  | _, _, .nil => ⟨[], rfl, rfl, by simp⟩
  | _, _, .cons ⟨i, e, h⟩ t => by
    obtain ⟨is, e2, h3, h4⟩ := ints_of t
    refine ⟨i :: is, by rw [e, e2]; rfl, by rw [List.length_cons, List.length_cons, h3], fun j hj => ?_⟩
    rcases List.mem_cons.mp hj with rfl | hj
    · exact h
    · exact h4 j hj
/-! ### what is a table -/
theorem s_is_whole (i lo hi : Int) (s : Sto) : f_is_whole [.d (.int i), .d (.int lo), .d (.int hi)] s = .ok (.d (.bl (decide (lo ≤ i) && decide (i ≤ hi)))) s := by
  unfold f_is_whole
  rw [evF_eq rfl]
  simp [c_is_whole]
  by_cases h : lo ≤ i <;> simp [h]
theorem s_is_string (x sg : List Nat) (hi : Int) (s : Sto) (h1 : 1 ≤ x.length) (h2 : (x.length : Int) ≤ hi) (h3 : x.length ≤ 1000) : f_is_string [.d (.str x), .d (.int hi), .d (.str sg)] s = .ok (.d (.bl (x.all fun c => sg.contains c))) s := by
  unfold f_is_string
  rw [evF_eq rfl]
  have hl : x.length ≤ lim := by unfold lim; omega
  have h1' : (1 : Int) ≤ x.length := by omega
  simp [c_is_string, hl, h1', h2]
  rw [lc_map (enc := fun c => D.str [c]) (g := fun c => .bl (sg.contains c)) (fun c hc => by simp [cmpR, hasSign]) hl]
  simp [allM_blf]
theorem s_is_name (x : List Nat) (s : Sto) (h : isNm (.str x) = true) : f_is_name [.d (.str x)] s = .ok (.d (.bl true)) s := by
  unfold f_is_name
  rw [evF_eq rfl]
  unfold isNm at h
  simp only [Bool.and_eq_true, decide_eq_true_eq] at h
  have hg : gl 0 = .str smallL := rfl
  simp [c_is_name, hg]
  rw [s_is_string x smallL 4 s h.1.1 (by omega) (by omega), h.2]
  rfl
theorem s_is_value (d : D) (s : Sto) (h : isVal d = true) : f_is_value [.d d] s = .ok (.d (.bl true)) s := by
  unfold f_is_value
  rw [evF_eq rfl]
  cases d with
  | int i =>
    unfold isVal at h
    simp only [Bool.and_eq_true, decide_eq_true_eq] at h
    simp [c_is_value, s_is_whole, h.1, h.2]
  | str x =>
    unfold isVal at h
    simp only [Bool.and_eq_true, decide_eq_true_eq] at h
    have hg : gl 0 = .str smallL := rfl
    have hw : f_is_whole [.d (.str x), .d (.int (-99)), .d (.int 99)] s = .ok (.d (.bl false)) s := by
      unfold f_is_whole
      rw [evF_eq rfl]
      simp [c_is_whole]
    have hs := s_is_string x (smallL ++ [45]) 7 s h.1.1 (by omega) (by omega)
    rw [h.2] at hs
    have hl : smallL.length + 1 ≤ lim := by unfold lim; show 27 ≤ 16777216; omega
    simp [c_is_value, hw, hg, hl, hs]
  | _ => cases h
theorem s_is_row (r : List D) (n : Nat) (s : Sto) (hl : r.length = n) (hn : n ≤ 1000) (h : ∀ d ∈ r, isVal d = true) : f_is_row [.d (.tup r), .d (.int n)] s = .ok (.d (.bl true)) s := by
  unfold f_is_row
  rw [evF_eq rfl]
  simp [c_is_row, hl, eqD]
  rw [lc_id (g := fun _ => D.bl true) (fun d hd => by simp [s_is_value d s (h d hd)]) (by unfold lim; omega)]
  simp
theorem unlike_str (ns : List (List Nat)) (h : ns.Nodup) : unlike (ns.map D.str) = ns.length := by
  have go : ∀ (acc ns : List (List Nat)), (acc ++ ns).Nodup → (ns.map D.str).foldl (fun acc d => if inD d acc then acc else acc ++ [d]) (acc.map D.str) = (acc ++ ns).map D.str := by
    intro acc ns
    induction ns generalizing acc with
    | nil => intro _; simp
    | cons n ns ih =>
      intro hd
      rw [List.map_cons, List.foldl_cons, inD_str]
      have : acc.contains n = false := by
        rw [← Bool.not_eq_true, List.contains_iff_mem]
        intro hm
        rw [List.nodup_append] at hd
        exact hd.2.2 n hm n (List.mem_cons_self ..) rfl
      rw [this]
      have := ih (acc ++ [n]) (by simpa using hd)
      simpa using this
  unfold unlike metD
  have := go [] ns (by simpa using h)
  rw [List.map_nil, List.nil_append] at this
  rw [this, List.length_map]
theorem s_is_table (t : Tb) (wide tall : Nat) (T : TOk t wide tall) (hw : wide ≤ 4) (ht : tall ≤ 4) (s : Sto) : f_is_table [.d (encT t)] s = .ok (.d (.bl true)) s := by
  unfold f_is_table
  rw [evF_eq rfl]
  have w1 := T.one
  have w2 := T.wide
  have w3 := T.tall
  have hl1 : (1 : Int) ≤ t.ns.length := by omega
  have hl2 : (t.ns.length : Int) ≤ 4 := by omega
  have hl3 : (t.rs.length : Int) ≤ 4 := by omega
  have hl4 : ¬ ((4 : Int) < t.rs.length) := by omega
  have hl5 : t.ns.length ≤ 1000 := by omega
  simp [c_is_table, hl1, hl2, eqD]
  rw [lc_map (enc := D.str) (g := fun _ => .bl true) (fun x hx => by simp [s_is_name x s (T.nm x hx)]) (by unfold lim; omega)]
  simp [flatS, hl5, unlike_str t.ns T.nd, eqD, hl4]
  rw [lc_map (enc := D.tup) (g := fun _ => .bl true) (fun r hr => by simp [s_is_row r t.ns.length s (T.row r hr) (by omega) (T.val r hr)]) (by unfold lim; omega)]
  simp
theorem s_need_table (t : Tb) (wide tall : Nat) (T : TOk t wide tall) (hw : wide ≤ 4) (ht : tall ≤ 4) (s : Sto) : f_need_table [.d (encT t)] s = .ok (.d .non) s := by
  unfold f_need_table
  rw [evF_eq rfl]
  simp [c_need_table, s_is_table t wide tall T hw ht]
/-! ### pairings -/
abbrev encPr (q : Nat × Nat) : D := .tup [.int q.1, .int q.2]
abbrev encP (p : List (Nat × Nat)) : D := .tup (p.map encPr)
def prsG : Nat → Nat → Nat → List Nat → List (List (Nat × Nat))
  | 0, _, _, _ => [[]]
  | f+1, i, m, os => [] :: ((List.range (m - i)).flatMap fun d => os.flatMap fun j => (prsG f (i+d+1) m (os.filter (· != j))).map fun r => (i+d, j) :: r)
/-- all pairings, ascending -/
def prs (m n : Nat) : List (List (Nat × Nat)) := prsG m 0 m (List.range n)
/-- how long an ascending part there is, from lo on -/
def lisA : Nat → List Nat → Nat
  | _, [] => 0
  | lo, e :: es => max (lisA lo es) (if lo ≤ e then 1 + lisA (e + 1) es else 0)
def mv (p : List (Nat × Nat)) : Nat := p.length - lisA 0 (p.map (·.2))
theorem upto3 {P : Nat → Prop} {n : Nat} (h : n ≤ 3) (h0 : P 0) (h1 : P 1) (h2 : P 2) (h3 : P 3) : P n := by
  rcases (by omega : n = 0 ∨ n = 1 ∨ n = 2 ∨ n = 3) with rfl | rfl | rfl | rfl <;> assumption
/-- pairs within -/
def inP (m n : Nat) (p : List (Nat × Nat)) : Bool := p.all fun q => decide (q.1 < m) && decide (q.2 < n)
theorem prs_sub : (List.range 4).all (fun m => (List.range 4).all fun n => (prs m n).all fun p => (prs 3 3).contains p && inP m n p) = true := by decide +kernel
theorem prs_in {m n : Nat} (hm : m ≤ 3) (hn : n ≤ 3) {p : List (Nat × Nat)} (h : p ∈ prs m n) : p ∈ prs 3 3 ∧ ∀ q ∈ p, q.1 < m ∧ q.2 < n := by
  have := prs_sub
  rw [List.all_eq_true] at this
  have := this m (List.mem_range.mpr (by omega))
  rw [List.all_eq_true] at this
  have := this n (List.mem_range.mpr (by omega))
  rw [List.all_eq_true] at this
  have := this p h
  rw [Bool.and_eq_true, List.contains_iff_mem] at this
  refine ⟨this.1, fun q hq => ?_⟩
  have h2 := this.2
  unfold inP at h2
  rw [List.all_eq_true] at h2
  have := h2 q hq
  simpa using this
theorem nil_prs (m n : Nat) : [] ∈ prs m n := by
  unfold prs
  cases m with
  | zero => exact List.mem_cons_self ..
  | succ m => exact List.mem_cons_self ..
theorem many33 : (List.range 4).all (fun m => (List.range 4).all fun n => decide ((prs m n).length ≤ 34)) = true := by decide +kernel
theorem prs_many {m n : Nat} (hm : m ≤ 3) (hn : n ≤ 3) : (prs m n).length ≤ 34 := by
  have := many33
  rw [List.all_eq_true] at this
  have := this m (List.mem_range.mpr (by omega))
  rw [List.all_eq_true] at this
  simpa using this n (List.mem_range.mpr (by omega))
theorem len33 : (prs 3 3).all (fun p => decide (p.length ≤ 3)) = true := by decide +kernel
theorem prs_len {p : List (Nat × Nat)} (h : p ∈ prs 3 3) : p.length ≤ 3 := by
  have := len33
  rw [List.all_eq_true] at this
  simpa using this p h
/-! ### counts -/
theorem val_depth {d : D} (h : isVal d = true) : depth d = 0 := by
  cases d <;> first | (simp; done) | cases h
theorem val_depthOk {d e : D} (h : isVal d = true) : depthOk d e = true := depthOk_l (by rw [val_depth h]; omega)
/-- how many paired columns differ in two rows -/
def ms (cols : List (Nat × Nat)) (r r' : List D) : Int := (cols.map fun q => if eqD (nth r q.1) (nth r' q.2) = true then (0 : Int) else 1).sum
def inR (m n : Nat) (p : List (Nat × Nat)) : Prop := ∀ q ∈ p, q.1 < m ∧ q.2 < n
/-- how many paired columns have different names -/
def nmD (t u : Tb) (cols : List (Nat × Nat)) : Int := (cols.map fun q => if nth t.ns q.1 = nth u.ns q.2 then (0 : Int) else 1).sum
def cellsD (t u : Tb) (cols rows : List (Nat × Nat)) : Int := (rows.map fun q => ms cols (nth t.rs q.1) (nth u.rs q.2)).sum
def unp (m n : Nat) (p : List (Nat × Nat)) : Int := m + n - 2 * (p.length : Int)
/-- the counts of an alignment -/
def cnt (t u : Tb) (a : List (Nat × Nat) × List (Nat × Nat)) : List Int :=
  [cellsD t u a.1 a.2, nmD t u a.1, unp t.ns.length u.ns.length a.1, unp t.rs.length u.rs.length a.2, (mv a.1 : Int) + (mv a.2 : Int)]
/-- the cost of counts -/
def cst (c w : List Int) : Int := (c.zipIdx.map fun p => p.1 * nth w p.2).sum
abbrev encA (a : List (Nat × Nat) × List (Nat × Nat)) : D := .tup [encP a.1, encP a.2]
def als (t u : Tb) : List (List (Nat × Nat) × List (Nat × Nat)) := (prs t.ns.length u.ns.length).flatMap fun c => (prs t.rs.length u.rs.length).map fun r => (c, r)
theorem mem_als {t u : Tb} {a : List (Nat × Nat) × List (Nat × Nat)} : a ∈ als t u ↔ a.1 ∈ prs t.ns.length u.ns.length ∧ a.2 ∈ prs t.rs.length u.rs.length := by
  unfold als
  rw [List.mem_flatMap]
  constructor
  · rintro ⟨c, hc, h⟩
    obtain ⟨r, hr, rfl⟩ := List.mem_map.mp h
    exact ⟨hc, hr⟩
  · rintro ⟨h1, h2⟩
    exact ⟨a.1, h1, List.mem_map.mpr ⟨a.2, h2, rfl⟩⟩
section
variable {t u : Tb} {wide tall : Nat} (T : TOk t wide tall) (U : TOk u wide tall) (hw : wide ≤ 3) (ht : tall ≤ 3)
include T U hw ht
end
/-! ### costs -/
theorem w_ok {w : List Int} (h : WOk w) {i : Nat} (hi : i < 5) : 1 ≤ nth w i ∧ nth w i ≤ 9 := by
  have hm : nth w i ∈ w := nth_mem (by rw [h.len]; exact hi)
  exact ⟨h.lo _ hm, h.hi _ hm⟩
theorem w_mul {w : List Int} (h : WOk w) {i : Nat} (hi : i < 5) (x : Int) : mulOk x (nth w i) = true := by
  obtain ⟨h1, h2⟩ := w_ok h hi
  exact mul_right (by omega)
theorem cost_lc {w c : List Int} (h : WOk w) (hc : c.length = 5) {p : Int × Nat} (hp : p ∈ c.zipIdx) : p.2 < 5 := by
  obtain ⟨x, i⟩ := p
  have := List.mem_zipIdx' hp
  have := this.1
  simp only; omega
theorem cnt_len (t u : Tb) (a : List (Nat × Nat) × List (Nat × Nat)) : (cnt t u a).length = 5 := rfl
section
variable {t u : Tb} {wide tall : Nat} (T : TOk t wide tall) (U : TOk u wide tall) (hw : wide ≤ 3) (ht : tall ≤ 3)
include T U hw ht
end
/-! ### the least -/
abbrev Al := List (Nat × Nat) × List (Nat × Nat)
def encO : Option Int → D
  | none => .non
  | some i => .int i
def bstep (K : Al → Int) (st : Option Int × List Al) (x : Al) : Option Int × List Al := match st with
  | (none, _) => (some (K x), [x])
  | (some l, due) => if K x < l then (some (K x), [x]) else if K x = l then (some l, due ++ [x]) else (some l, due)
theorem bstep_len (K : Al → Int) (st : Option Int × List Al) (x : Al) : (bstep K st x).2.length ≤ st.2.length + 1 := by
  obtain ⟨o, due⟩ := st
  cases o with
  | none => simp [bstep]
  | some l =>
    unfold bstep
    simp only
    split
    · simp
    · split <;> simp
theorem bfold_from (K : Al → Int) : ∀ (L : List Al) (l : Int) (due : List Al), ∃ l', L.foldl (bstep K) (some l, due) = (some l', (if l' = l then due else []) ++ L.filter fun x => decide (K x = l')) ∧ l' ≤ l ∧ (∀ x ∈ L, l' ≤ K x) ∧ (l' = l ∨ ∃ x ∈ L, K x = l')
  | [], l, due => ⟨l, by simp, by omega, by simp, .inl rfl⟩
  | x :: L, l, due => by
    rw [List.foldl_cons]
    by_cases h1 : K x < l
    · have e : bstep K (some l, due) x = (some (K x), [x]) := by simp [bstep, h1]
      rw [e]
      obtain ⟨l', e2, a, b, c⟩ := bfold_from K L (K x) [x]
      refine ⟨l', ?_, by omega, ?_, .inr ?_⟩
      · rw [e2, if_neg (by omega : ¬ l' = l), List.nil_append]
        by_cases h : l' = K x
        · rw [if_pos h, List.filter_cons_of_pos (by simp [h])]; rfl
        · rw [if_neg h, List.filter_cons_of_neg (by simpa using Ne.symm h)]; rfl
      · intro y hy
        rcases List.mem_cons.mp hy with rfl | hy
        · exact a
        · exact b y hy
      · rcases c with c | ⟨y, hy, c⟩
        · exact ⟨x, List.mem_cons_self .., c.symm⟩
        · exact ⟨y, List.mem_cons_of_mem x hy, c⟩
    · by_cases h2 : K x = l
      · have e : bstep K (some l, due) x = (some l, due ++ [x]) := by simp [bstep, h2]
        rw [e]
        obtain ⟨l', e2, a, b, c⟩ := bfold_from K L l (due ++ [x])
        refine ⟨l', ?_, a, ?_, ?_⟩
        · rw [e2]
          by_cases h : l' = l
          · rw [if_pos h, if_pos h, List.filter_cons_of_pos (by simp [h, h2]), List.append_assoc]; rfl
          · rw [if_neg h, if_neg h, List.filter_cons_of_neg (by simp [h2]; exact Ne.symm h)]
        · intro y hy
          rcases List.mem_cons.mp hy with rfl | hy
          · omega
          · exact b y hy
        · rcases c with c | ⟨y, hy, c⟩
          · exact .inl c
          · exact .inr ⟨y, List.mem_cons_of_mem x hy, c⟩
      · have e : bstep K (some l, due) x = (some l, due) := by simp [bstep, h1, h2]
        rw [e]
        obtain ⟨l', e2, a, b, c⟩ := bfold_from K L l due
        refine ⟨l', ?_, a, ?_, ?_⟩
        · rw [e2, List.filter_cons_of_neg (by simp; omega)]
        · intro y hy
          rcases List.mem_cons.mp hy with rfl | hy
          · omega
          · exact b y hy
        · rcases c with c | ⟨y, hy, c⟩
          · exact .inl c
          · exact .inr ⟨y, List.mem_cons_of_mem x hy, c⟩
/-- the least cost and all that have it -/
def bst (K : Al → Int) (L : List Al) : Option Int × List Al := L.foldl (bstep K) (none, [])
theorem bst_eq (K : Al → Int) {L : List Al} (h : L ≠ []) : ∃ l, bst K L = (some l, L.filter fun x => decide (K x = l)) ∧ (∀ x ∈ L, l ≤ K x) ∧ ∃ x ∈ L, K x = l := by
  cases L with
  | nil => exact absurd rfl h
  | cons x L =>
    obtain ⟨l', e2, a, b, c⟩ := bfold_from K L (K x) [x]
    refine ⟨l', ?_, ?_, ?_⟩
    · unfold bst
      rw [List.foldl_cons]
      show L.foldl (bstep K) (some (K x), [x]) = _
      rw [e2]
      by_cases h : l' = K x
      · rw [if_pos h, List.filter_cons_of_pos (by simp [h])]; rfl
      · rw [if_neg h, List.filter_cons_of_neg (by simpa using Ne.symm h)]; rfl
    · intro y hy
      rcases List.mem_cons.mp hy with rfl | hy
      · exact a
      · exact b y hy
    · rcases c with c | ⟨y, hy, c⟩
      · exact ⟨x, List.mem_cons_self .., c.symm⟩
      · exact ⟨y, List.mem_cons_of_mem x hy, c⟩
theorem als_ne (t u : Tb) : als t u ≠ [] := by
  intro h
  have : (([], []) : Al) ∈ als t u := mem_als.mpr ⟨nil_prs _ _, nil_prs _ _⟩
  rw [h] at this
  cases this
/-- the cost of an alignment -/
def kst (t u : Tb) (w : List Int) (a : Al) : Int := cst (cnt t u a) w
def baseC (t u : Tb) (w : List Int) (c : List (Nat × Nat)) : Int := nmD t u c * nth w 1 + unp t.ns.length u.ns.length c * nth w 2 + mv c * nth w 4
def extraR (t u : Tb) (w : List Int) (r : List (Nat × Nat)) : Int := unp t.rs.length u.rs.length r * nth w 3 + mv r * nth w 4
theorem kst_eq (t u : Tb) (w : List Int) (a : Al) : kst t u w a = baseC t u w a.1 + extraR t u w a.2 + nth w 0 * cellsD t u a.1 a.2 := by
  unfold kst cst cnt baseC extraR
  simp [List.zipIdx_cons]
  rw [Int.add_mul, Int.mul_comm (cellsD t u a.1 a.2)]
  omega
theorem sum_nonneg : ∀ {xs : List Int}, (∀ x ∈ xs, 0 ≤ x) → 0 ≤ xs.sum
  | [], _ => by simp
  | x :: xs, h => by
    rw [List.sum_cons]
    have := h x (List.mem_cons_self ..)
    have := sum_nonneg fun y hy => h y (List.mem_cons_of_mem x hy)
    omega
theorem ms_nonneg (c : List (Nat × Nat)) (r r' : List D) : 0 ≤ ms c r r' := sum_nonneg fun x hx => by
  obtain ⟨q, _, rfl⟩ := List.mem_map.mp hx
  split <;> omega
theorem cells_nonneg (t u : Tb) (c r : List (Nat × Nat)) : 0 ≤ cellsD t u c r := sum_nonneg fun x hx => by
  obtain ⟨q, _, rfl⟩ := List.mem_map.mp hx
  exact ms_nonneg ..
/-- what lies above the least may be left out -/
theorem skip_dear (K : Al → Int) (c : List (Nat × Nat)) (p : List (Nat × Nat) → Bool) : ∀ (rs : List (List (Nat × Nat))) (st : Option Int × List Al), (∀ r ∈ rs, p r = false → ∃ l, st.1 = some l ∧ l < K (c, r)) →
    (rs.filter p).foldl (fun st r => bstep K st (c, r)) st = rs.foldl (fun st r => bstep K st (c, r)) st
  | [], _, _ => rfl
  | r :: rs, (o, due), h => by
    cases hp : p r with
    | true =>
      rw [List.filter_cons_of_pos hp, List.foldl_cons, List.foldl_cons]
      refine skip_dear K c p rs _ fun r' hr' h' => ?_
      obtain ⟨l, e, hl⟩ := h r' (List.mem_cons_of_mem r hr') h'
      cases o with
      | none => cases e
      | some l0 =>
        cases e
        unfold bstep
        simp only
        split
        · exact ⟨_, rfl, by omega⟩
        · split <;> exact ⟨_, rfl, hl⟩
    | false =>
      rw [List.filter_cons_of_neg (by simp [hp]), List.foldl_cons]
      obtain ⟨l, e, hl⟩ := h r (List.mem_cons_self ..) hp
      cases o with
      | none => cases e
      | some l0 =>
        cases e
        have e1 : bstep K (some l, due) (c, r) = (some l, due) := by
          unfold bstep
          simp only
          rw [if_neg (by omega), if_neg (by omega)]
        rw [e1]
        exact skip_dear K c p rs _ fun r' hr' h' => h r' (List.mem_cons_of_mem r hr') h'
abbrev encR (t u : Tb) (w : List Int) (r : List (Nat × Nat)) : D := .tup [encP r, .int (extraR t u w r)]
def missD (t u : Tb) (c : List (Nat × Nat)) : D := .lst (t.rs.map fun r => .lst ((u.rs.map fun r' => ms c r r').map D.int))
/-- the rows that may still be least -/
def closeP (t u : Tb) (w : List Int) (c : List (Nat × Nat)) (o : Option Int) (r : List (Nat × Nat)) : Bool := match o with
  | none => true
  | some l => decide (baseC t u w c + extraR t u w r ≤ l)
theorem w_get {w : List Int} (Wk : WOk w) {i : Nat} (hi : i < 5) : w[i]? = some (nth w i) := nth_get (by rw [Wk.len]; exact hi)
theorem mul_left {i j : Int} (h : i.natAbs < 18446744073709551616) : mulOk i j = true := by
  unfold mulOk
  rw [decide_eq_true h, Bool.true_or, Bool.true_or]
theorem isNon_O (o : Option Int) : isNon (encO o) = o.isNone := by cases o <;> rfl
section
variable {t u : Tb} {wide tall : Nat} (T : TOk t wide tall) (U : TOk u wide tall) (hw : wide ≤ 3) (ht : tall ≤ 3)
include T U hw ht
end
section
variable {t u : Tb} {wide tall : Nat} (T : TOk t wide tall) (U : TOk u wide tall) (hw : wide ≤ 3) (ht : tall ≤ 3)
include T U hw ht
end
theorem depth_P (p : List (Nat × Nat)) : depth (encP p) ≤ 2 := by
  have := depths_map (f := encPr) (n := 1) (fun q => by simp) p
  simp only [depth_t]
  omega
theorem depth_A (a : Al) : depth (encA a) ≤ 3 := by
  have h1 := depth_P a.1
  have h2 := depth_P a.2
  simp only [depth_t, depths_cons, depths_nil] at h1 h2 ⊢
  omega
theorem depth_As (as : List Al) : depth (.lst (as.map encA)) ≤ 4 := by
  have := depths_map (f := encA) (n := 3) depth_A as
  rw [depth_l]
  omega
theorem als_many {t u : Tb} {wide tall : Nat} (T : TOk t wide tall) (U : TOk u wide tall) (hw : wide ≤ 3) (ht : tall ≤ 3) : (als t u).length ≤ 34 * 34 := by
  have w2 := T.wide
  have w3 := T.tall
  have u2 := U.wide
  have u3 := U.tall
  have l1 := prs_many (show t.ns.length ≤ 3 by omega) (show u.ns.length ≤ 3 by omega)
  have l2 := prs_many (show t.rs.length ≤ 3 by omega) (show u.rs.length ≤ 3 by omega)
  have : ∀ cs : List (List (Nat × Nat)), (cs.flatMap fun c => (prs t.rs.length u.rs.length).map fun r => (c, r)).length = cs.length * (prs t.rs.length u.rs.length).length := by
    intro cs
    induction cs with
    | nil => simp
    | cons c cs ih => rw [List.flatMap_cons, List.length_append, ih, List.length_map, List.length_cons, Nat.add_mul]; omega
  unfold als
  rw [this]
  exact Nat.mul_le_mul l1 l2
/-! ### pairs, in order -/
abbrev Pr := Nat × Nat
def ltP (a b : Pr) : Bool := decide (a.1 < b.1 ∨ (a.1 = b.1 ∧ a.2 < b.2))
def insP (d : Pr) : List Pr → List Pr
  | [] => [d]
  | e :: es => if ltP e d then e :: insP d es else d :: e :: es
def sortP : List Pr → List Pr
  | [] => []
  | d :: ds => insP d (sortP ds)
theorem eqD_pr (a b : Pr) : eqD (encPr a) (encPr b) = decide (a = b) := by
  obtain ⟨a1, a2⟩ := a
  obtain ⟨b1, b2⟩ := b
  show eqDs [.int a1, .int a2] [.int b1, .int b2] = _
  simp only [eqDs, eqD, Bool.and_true]
  by_cases h1 : a1 = b1
  · by_cases h2 : a2 = b2
    · simp [h1, h2]
    · have : ((a2 : Int) == (b2 : Int)) = false := by simpa using (by omega : ¬ (a2 : Int) = b2)
      simp [this, h2]
  · have : ((a1 : Int) == (b1 : Int)) = false := by simpa using (by omega : ¬ (a1 : Int) = b1)
    simp [this, h1]
theorem ltD_pr (a b : Pr) : ltD (encPr a) (encPr b) = ltP a b := by
  obtain ⟨a1, a2⟩ := a
  obtain ⟨b1, b2⟩ := b
  show ltDs [.int a1, .int a2] [.int b1, .int b2] = _
  simp only [ltDs, eqD, ltD, ltP]
  by_cases h1 : a1 = b1
  · subst h1
    by_cases h2 : a2 = b2
    · subst h2; simp
    · have : ((a2 : Int) == (b2 : Int)) = false := by simpa using (by omega : ¬ (a2 : Int) = b2)
      simp [this]
  · have : ((a1 : Int) == (b1 : Int)) = false := by simpa using (by omega : ¬ (a1 : Int) = b1)
    simp [this, h1]
theorem sortD_pr (xs : List Pr) : sortD (xs.map encPr) = (sortP xs).map encPr := by
  have ins : ∀ (d : Pr) (ys : List Pr), insR (encPr d) (ys.map encPr) = (insP d ys).map encPr := by
    intro d ys
    induction ys with
    | nil => rfl
    | cons y ys ih =>
      rw [List.map_cons, insR, insP, ltD_pr, ih]
      split <;> rfl
  induction xs with
  | nil => rfl
  | cons x xs ih => rw [List.map_cons, sortD, ih, ins, sortP]
theorem alike_pr (xs : List Pr) : allAlike (xs.map encPr) = true := by
  unfold allAlike
  rw [List.all_eq_true]
  intro d hd
  rw [List.all_eq_true]
  intro e he
  obtain ⟨a, _, rfl⟩ := List.mem_map.mp hd
  obtain ⟨b, _, rfl⟩ := List.mem_map.mp he
  rfl
theorem depths_pr (xs : List Pr) : depths (xs.map encPr) ≤ 1 := depths_map (fun q => by simp) xs
theorem inD_pr (q : Pr) (xs : List Pr) : inD (encPr q) (xs.map encPr) = decide (q ∈ xs) := by
  unfold inD
  induction xs with
  | nil => simp
  | cons x xs ih =>
    rw [List.map_cons, List.any_cons, ih, eqD_pr]
    by_cases h : x = q
    · subst h; simp
    · have h' : q ≠ x := fun z => h z.symm
      simp [h, h']
theorem sortP_perm (xs : List Pr) : (sortP xs).Perm xs := by
  have ins : ∀ (d : Pr) (ys : List Pr), (insP d ys).Perm (d :: ys) := by
    intro d ys
    induction ys with
    | nil => exact List.Perm.refl _
    | cons y ys ih =>
      rw [insP]
      split
      · exact (ih.cons y).trans (List.Perm.swap d y ys)
      · exact List.Perm.refl _
  induction xs with
  | nil => exact List.Perm.refl _
  | cons x xs ih =>
    rw [sortP]
    exact (ins x _).trans (ih.cons x)
theorem ltP_trans {a b c : Pr} (h : ltP a b = true) (k : ltP b c = true) : ltP a c = true := by
  unfold ltP at *
  simp only [decide_eq_true_eq] at *
  omega
theorem ltP_tot {a b : Pr} (h : ltP a b = false) (k : a ≠ b) : ltP b a = true := by
  unfold ltP at *
  simp only [decide_eq_true_eq, decide_eq_false_iff_not] at *
  obtain ⟨a1, a2⟩ := a
  obtain ⟨b1, b2⟩ := b
  simp only [ne_eq, Prod.mk.injEq, not_and] at k
  simp only at *
  by_cases h1 : a1 = b1
  · have := k h1; omega
  · omega
theorem ltP_irrefl (a : Pr) : ltP a a = false := by
  unfold ltP
  simp
abbrev Asc (xs : List Pr) : Prop := xs.Pairwise fun a b => ltP a b = true
theorem sortP_asc {xs : List Pr} (hn : xs.Nodup) : Asc (sortP xs) := by
  have ins : ∀ (d : Pr) (ys : List Pr), Asc ys → d ∉ ys → Asc (insP d ys) := by
    intro d ys
    induction ys with
    | nil => intro _ _; exact List.pairwise_singleton _ _
    | cons y ys ih =>
      intro ha hd
      have ha' := List.pairwise_cons.mp ha
      have hne : y ≠ d := fun z => hd (by rw [z]; exact List.mem_cons_self ..)
      rw [insP]
      split
      · rename_i hlt
        refine List.pairwise_cons.mpr ⟨fun z hz => ?_, ih ha'.2 fun z => hd (List.mem_cons_of_mem y z)⟩
        have hp : (insP d ys).Perm (d :: ys) := by
          have := sortP_perm
          clear this ih ha ha' hd hne hlt hz
          induction ys with
          | nil => exact List.Perm.refl _
          | cons y ys ih =>
            rw [insP]
            split
            · exact (ih.cons y).trans (List.Perm.swap d y ys)
            · exact List.Perm.refl _
        rcases List.mem_cons.mp (hp.mem_iff.mp hz) with rfl | hz
        · exact hlt
        · exact ha'.1 z hz
      · rename_i hlt
        have hdy : ltP d y = true := ltP_tot (by simpa using hlt) hne
        refine List.pairwise_cons.mpr ⟨fun z hz => ?_, ha⟩
        rcases List.mem_cons.mp hz with rfl | hz
        · exact hdy
        · exact ltP_trans hdy (ha'.1 z hz)
  induction xs with
  | nil => exact List.Pairwise.nil
  | cons x xs ih =>
    rw [List.nodup_cons] at hn
    exact ins x _ (ih hn.2) fun z => hn.1 ((sortP_perm xs).mem_iff.mp z)
theorem asc_ext : ∀ {xs ys : List Pr}, Asc xs → Asc ys → (∀ q, q ∈ xs ↔ q ∈ ys) → xs = ys
  | [], [], _, _, _ => rfl
  | [], y :: ys, _, _, h => by have := (h y).mpr (List.mem_cons_self ..); cases this
  | x :: xs, [], _, _, h => by have := (h x).mp (List.mem_cons_self ..); cases this
  | x :: xs, y :: ys, ha, hb, h => by
    have ha' := List.pairwise_cons.mp ha
    have hb' := List.pairwise_cons.mp hb
    have e : x = y := by
      rcases List.mem_cons.mp ((h x).mp (List.mem_cons_self ..)) with e | hx
      · exact e
      · rcases List.mem_cons.mp ((h y).mpr (List.mem_cons_self ..)) with e | hy
        · exact e.symm
        · have h1 := hb'.1 x hx
          have h2 := ha'.1 y hy
          have := ltP_trans h1 h2
          rw [ltP_irrefl] at this
          cases this
    subst e
    congr 1
    refine asc_ext ha'.2 hb'.2 fun q => ?_
    constructor
    · intro hq
      rcases List.mem_cons.mp ((h q).mp (List.mem_cons_of_mem x hq)) with e | hq'
      · subst e
        have := ha'.1 q hq
        rw [ltP_irrefl] at this
        cases this
      · exact hq'
    · intro hq
      rcases List.mem_cons.mp ((h q).mpr (List.mem_cons_of_mem x hq)) with e | hq'
      · subst e
        have := hb'.1 q hq
        rw [ltP_irrefl] at this
        cases this
      · exact hq'
theorem Asc.filter {xs : List Pr} (h : Asc xs) (p : Pr → Bool) : Asc (xs.filter p) := List.Pairwise.sublist List.filter_sublist h
theorem Asc.nodup {xs : List Pr} (h : Asc xs) : xs.Nodup := List.Pairwise.imp (fun {a b} hab e => by subst e; rw [ltP_irrefl] at hab; cases hab) h
/-- a pairing's pairs ascend -/
def ascB : List Pr → Bool
  | a :: b :: r => ltP a b && ascB (b :: r)
  | _ => true
theorem asc33 : (prs 3 3).all ascB = true := by decide +kernel
theorem asc_of : ∀ {xs : List Pr}, ascB xs = true → Asc xs
  | [], _ => List.Pairwise.nil
  | [_], _ => List.pairwise_singleton _ _
  | a :: b :: r, h => by
    unfold ascB at h
    rw [Bool.and_eq_true] at h
    have ih := asc_of h.2
    refine List.pairwise_cons.mpr ⟨fun z hz => ?_, ih⟩
    rcases List.mem_cons.mp hz with rfl | hz
    · exact h.1
    · exact ltP_trans h.1 ((List.pairwise_cons.mp ih).1 z hz)
theorem prs_asc {p : List Pr} (h : p ∈ prs 3 3) : Asc p := by
  have := asc33
  rw [List.all_eq_true] at this
  exact asc_of (this p h)
/-! ### unlike pairs, as they are met -/
def addU (u : List Pr) (q : Pr) : List Pr := if q ∈ u then u else u ++ [q]
def uniq (u : List Pr) (qs : List Pr) : List Pr := qs.foldl addU u
theorem addU_nodup {u : List Pr} (h : u.Nodup) (q : Pr) : (addU u q).Nodup := by
  unfold addU
  split
  · exact h
  · rename_i hq
    rw [List.nodup_append]
    exact ⟨h, by simp, fun a ha b hb => by
      rw [List.mem_singleton] at hb
      subst hb
      exact fun z => hq (z ▸ ha)⟩
theorem uniq_nodup : ∀ {qs u : List Pr}, u.Nodup → (uniq u qs).Nodup
  | [], _, h => h
  | q :: qs, u, h => uniq_nodup (qs := qs) (addU_nodup h q)
theorem mem_addU {u : List Pr} {q x : Pr} : x ∈ addU u q ↔ x ∈ u ∨ x = q := by
  unfold addU
  split
  · rename_i h
    exact ⟨.inl, fun z => z.elim id fun e => e ▸ h⟩
  · rw [List.mem_append, List.mem_singleton]
theorem mem_uniq : ∀ {qs u : List Pr} {x : Pr}, x ∈ uniq u qs ↔ x ∈ u ∨ x ∈ qs
  | [], u, x => by simp [uniq]
  | q :: qs, u, x => by
    show x ∈ uniq (addU u q) qs ↔ _
    rw [mem_uniq, mem_addU, List.mem_cons, or_assoc]
theorem uniq_filter : ∀ {qs u : List Pr}, qs.Nodup → uniq u qs = u ++ qs.filter fun q => decide (q ∉ u)
  | [], u, _ => by simp [uniq]
  | q :: qs, u, h => by
    rw [List.nodup_cons] at h
    show uniq (addU u q) qs = _
    rw [uniq_filter h.2]
    unfold addU
    by_cases hq : q ∈ u
    · rw [if_pos hq, List.filter_cons_of_neg (by simp [hq])]
    · have e : qs.filter (fun x => decide (x ∉ u ++ [q])) = qs.filter (fun x => decide (x ∉ u)) := List.filter_congr fun x hx => by
        have : x ≠ q := fun z => h.1 (z ▸ hx)
        simp [this]
      rw [if_neg hq, List.filter_cons_of_pos (by simp [hq]), List.append_assoc, e]
      rfl
/-! ### sorting, for any order -/
section
variable {α : Type} (lt : α → α → Bool)
def insG (d : α) : List α → List α
  | [] => [d]
  | e :: es => if lt e d then e :: insG d es else d :: e :: es
def sortG : List α → List α
  | [] => []
  | d :: ds => insG lt d (sortG ds)
structure Ord3 : Prop where
  tr : ∀ {a b c : α}, lt a b = true → lt b c = true → lt a c = true
  tot : ∀ {a b : α}, lt a b = false → a ≠ b → lt b a = true
  irr : ∀ a : α, lt a a = false
abbrev AscG (xs : List α) : Prop := xs.Pairwise fun a b => lt a b = true
theorem insG_perm (d : α) : ∀ ys : List α, (insG lt d ys).Perm (d :: ys)
  | [] => List.Perm.refl _
  | y :: ys => by
    rw [insG]
    split
    · exact ((insG_perm d ys).cons y).trans (List.Perm.swap d y ys)
    · exact List.Perm.refl _
theorem sortG_perm : ∀ xs : List α, (sortG lt xs).Perm xs
  | [] => List.Perm.refl _
  | x :: xs => by
    rw [sortG]
    exact (insG_perm lt x _).trans ((sortG_perm xs).cons x)
variable {lt}
theorem insG_asc (O : Ord3 lt) (d : α) : ∀ ys : List α, AscG lt ys → d ∉ ys → AscG lt (insG lt d ys)
  | [], _, _ => List.pairwise_singleton _ _
  | y :: ys, ha, hd => by
    have ha' := List.pairwise_cons.mp ha
    have hne : y ≠ d := fun z => hd (by rw [z]; exact List.mem_cons_self ..)
    rw [insG]
    split
    · rename_i hlt
      refine List.pairwise_cons.mpr ⟨fun z hz => ?_, insG_asc O d ys ha'.2 fun z => hd (List.mem_cons_of_mem y z)⟩
      rcases List.mem_cons.mp ((insG_perm lt d ys).mem_iff.mp hz) with rfl | hz
      · exact hlt
      · exact ha'.1 z hz
    · rename_i hlt
      have hdy : lt d y = true := O.tot (by simpa using hlt) hne
      refine List.pairwise_cons.mpr ⟨fun z hz => ?_, ha⟩
      rcases List.mem_cons.mp hz with rfl | hz
      · exact hdy
      · exact O.tr hdy (ha'.1 z hz)
theorem sortG_asc (O : Ord3 lt) : ∀ {xs : List α}, xs.Nodup → AscG lt (sortG lt xs)
  | [], _ => List.Pairwise.nil
  | x :: xs, hn => by
    rw [List.nodup_cons] at hn
    exact insG_asc O x _ (sortG_asc O hn.2) fun z => hn.1 ((sortG_perm lt xs).mem_iff.mp z)
theorem ascG_ext (O : Ord3 lt) : ∀ {xs ys : List α}, AscG lt xs → AscG lt ys → (∀ q, q ∈ xs ↔ q ∈ ys) → xs = ys
  | [], [], _, _, _ => rfl
  | [], y :: ys, _, _, h => by have := (h y).mpr (List.mem_cons_self ..); cases this
  | x :: xs, [], _, _, h => by have := (h x).mp (List.mem_cons_self ..); cases this
  | x :: xs, y :: ys, ha, hb, h => by
    have ha' := List.pairwise_cons.mp ha
    have hb' := List.pairwise_cons.mp hb
    have e : x = y := by
      rcases List.mem_cons.mp ((h x).mp (List.mem_cons_self ..)) with e | hx
      · exact e
      · rcases List.mem_cons.mp ((h y).mpr (List.mem_cons_self ..)) with e | hy
        · exact e.symm
        · have := O.tr (hb'.1 x hx) (ha'.1 y hy)
          rw [O.irr] at this
          cases this
    subst e
    congr 1
    refine ascG_ext O ha'.2 hb'.2 fun q => ?_
    constructor
    · intro hq
      rcases List.mem_cons.mp ((h q).mp (List.mem_cons_of_mem x hq)) with e | hq'
      · subst e
        have := ha'.1 q hq
        rw [O.irr] at this
        cases this
      · exact hq'
    · intro hq
      rcases List.mem_cons.mp ((h q).mpr (List.mem_cons_of_mem x hq)) with e | hq'
      · subst e
        have := hb'.1 q hq
        rw [O.irr] at this
        cases this
      · exact hq'
theorem AscG.nodup (O : Ord3 lt) {xs : List α} (h : AscG lt xs) : xs.Nodup := List.Pairwise.imp (fun {a b} hab e => by subst e; rw [O.irr] at hab; cases hab) h
/-- what is in order stays -/
theorem sortG_id (O : Ord3 lt) : ∀ {xs : List α}, AscG lt xs → sortG lt xs = xs
  | [], _ => rfl
  | x :: xs, h => by
    have h' := List.pairwise_cons.mp h
    rw [sortG, sortG_id O h'.2]
    cases xs with
    | nil => rfl
    | cons y ys =>
      rw [insG]
      have h1 := h'.1 y (List.mem_cons_self ..)
      have : lt y x = false := by
        cases e : lt y x with
        | false => rfl
        | true =>
          have := O.tr h1 e
          rw [O.irr] at this
          cases this
      rw [this]; rfl
theorem sortD_map {enc : α → D} (h : ∀ a b, ltD (enc a) (enc b) = lt a b) (xs : List α) : sortD (xs.map enc) = (sortG lt xs).map enc := by
  have ins : ∀ (d : α) (ys : List α), insR (enc d) (ys.map enc) = (insG lt d ys).map enc := by
    intro d ys
    induction ys with
    | nil => rfl
    | cons y ys ih =>
      rw [List.map_cons, insR, insG, h, ih]
      split <;> rfl
  induction xs with
  | nil => rfl
  | cons x xs ih => rw [List.map_cons, sortD, ih, ins, sortG]
end
/-! ### unlike ones, as they are met; dicts -/
section
variable {α : Type} [DecidableEq α]
def addG (u : List α) (q : α) : List α := if q ∈ u then u else u ++ [q]
def uniG (u : List α) (qs : List α) : List α := qs.foldl addG u
theorem addG_nodup {u : List α} (h : u.Nodup) (q : α) : (addG u q).Nodup := by
  unfold addG
  split
  · exact h
  · rename_i hq
    rw [List.nodup_append]
    exact ⟨h, by simp, fun a ha b hb => by
      rw [List.mem_singleton] at hb
      subst hb
      exact fun z => hq (z ▸ ha)⟩
theorem uniG_nodup : ∀ {qs u : List α}, u.Nodup → (uniG u qs).Nodup
  | [], _, h => h
  | q :: qs, u, h => uniG_nodup (qs := qs) (addG_nodup h q)
theorem mem_addG {u : List α} {q x : α} : x ∈ addG u q ↔ x ∈ u ∨ x = q := by
  unfold addG
  split
  · rename_i h
    exact ⟨.inl, fun z => z.elim id fun e => e ▸ h⟩
  · rw [List.mem_append, List.mem_singleton]
theorem mem_uniG : ∀ {qs u : List α} {x : α}, x ∈ uniG u qs ↔ x ∈ u ∨ x ∈ qs
  | [], u, x => by simp [uniG]
  | q :: qs, u, x => by
    show x ∈ uniG (addG u q) qs ↔ _
    rw [mem_uniG, mem_addG, List.mem_cons, or_assoc]
theorem addG_len (u : List α) (q : α) : (addG u q).length ≤ u.length + 1 := by
  unfold addG; split <;> simp
theorem uniG_len : ∀ (qs u : List α), (uniG u qs).length ≤ u.length + qs.length
  | [], u => Nat.le_refl _
  | q :: qs, u => by
    have := uniG_len qs (addG u q)
    have h3 := addG_len u q
    show (uniG (addG u q) qs).length ≤ _
    rw [List.length_cons]; omega
/-- a dict whose values are all True -/
def entG (enc : α → D) (q : α) : D × D := (enc q, .bl true)
theorem putKV_G {enc : α → D} (h : ∀ a b, eqD (enc a) (enc b) = decide (a = b)) (u : List α) (q : α) : putKV (u.map (entG enc)) (enc q) (.bl true) = (addG u q).map (entG enc) := by
  have : ∀ u : List α, putKV (u.map (entG enc)) (enc q) (.bl true) = if q ∈ u then u.map (entG enc) else u.map (entG enc) ++ [entG enc q] := by
    intro u
    induction u with
    | nil => rfl
    | cons x u ih =>
      rw [List.map_cons]
      show (if eqD (enc x) (enc q) = true then (enc x, D.bl true) :: u.map (entG enc) else (enc x, D.bl true) :: putKV (u.map (entG enc)) (enc q) (.bl true)) = _
      rw [h, ih]
      by_cases e : x = q
      · subst e; simp [entG]
      · have e' : q ≠ x := fun z => e z.symm
        simp only [e, decide_false, Bool.false_eq_true, if_false, List.mem_cons, e', false_or]
        split <;> rfl
  rw [this]
  unfold addG
  split
  · rfl
  · rw [List.map_append]; rfl
theorem inD_G {enc : α → D} (h : ∀ a b, eqD (enc a) (enc b) = decide (a = b)) (q : α) (xs : List α) : inD (enc q) (xs.map enc) = decide (q ∈ xs) := by
  unfold inD
  induction xs with
  | nil => simp
  | cons x xs ih =>
    rw [List.map_cons, List.any_cons, ih, h]
    by_cases e : x = q
    · subst e; simp
    · have e' : q ≠ x := fun z => e z.symm
      simp [e, e']
theorem inD_G_of {enc : α → D} (h : ∀ a b, eqD (enc a) (enc b) = decide (a = b)) {q : α} {xs : List α} (hm : q ∈ xs) : inD (enc q) (xs.map enc) = true := by
  rw [inD_G h]; exact decide_eq_true hm
theorem inD_G_not {enc : α → D} (h : ∀ a b, eqD (enc a) (enc b) = decide (a = b)) {q : α} {xs : List α} (hm : q ∉ xs) : inD (enc q) (xs.map enc) = false := by
  rw [inD_G h]; exact decide_eq_false hm
theorem hasKV_G {enc : α → D} (h : ∀ a b, eqD (enc a) (enc b) = decide (a = b)) (q : α) (xs : List α) : hasKV (xs.map (entG enc)) (enc q) = decide (q ∈ xs) := by
  unfold hasKV
  induction xs with
  | nil => simp
  | cons x xs ih =>
    rw [List.map_cons, List.any_cons, ih]
    show (eqD (enc x) (enc q) || _) = _
    rw [h]
    by_cases e : x = q
    · subst e; simp
    · have e' : q ≠ x := fun z => e z.symm
      simp [e, e']
theorem hasKV_G_of {enc : α → D} (h : ∀ a b, eqD (enc a) (enc b) = decide (a = b)) {q : α} {xs : List α} (hm : q ∈ xs) : hasKV (xs.map (entG enc)) (enc q) = true := by
  rw [hasKV_G h]; exact decide_eq_true hm
theorem hasKV_G_not {enc : α → D} (h : ∀ a b, eqD (enc a) (enc b) = decide (a = b)) {q : α} {xs : List α} (hm : q ∉ xs) : hasKV (xs.map (entG enc)) (enc q) = false := by
  rw [hasKV_G h]; exact decide_eq_false hm
end
/-! ### tuples of ints -/
abbrev encI (c : List Int) : D := .tup (c.map D.int)
theorem eqD_I (a b : List Int) : eqD (encI a) (encI b) = decide (a = b) := by
  show eqDs (a.map D.int) (b.map D.int) = _
  induction a generalizing b with
  | nil => cases b <;> simp [eqDs]
  | cons x a ih =>
    cases b with
    | nil => simp [eqDs]
    | cons y b =>
      rw [List.map_cons, List.map_cons, eqDs, eqD, ih]
      by_cases h : x = y
      · subst h; simp
      · simp [h]
def ltL : List Int → List Int → Bool
  | [], [] => false
  | [], _ :: _ => true
  | _ :: _, [] => false
  | x :: xs, y :: ys => if x = y then ltL xs ys else decide (x < y)
theorem ltD_I (a b : List Int) : ltD (encI a) (encI b) = ltL a b := by
  show ltDs (a.map D.int) (b.map D.int) = _
  induction a generalizing b with
  | nil => cases b <;> simp [ltDs, ltL]
  | cons x a ih =>
    cases b with
    | nil => simp [ltDs, ltL]
    | cons y b =>
      rw [List.map_cons, List.map_cons, ltDs, eqD, ltD, ltL, ih]
      by_cases h : x = y
      · subst h; simp
      · have : (x == y) = false := beq_eq_false_iff_ne.mpr h
        simp [h, this]
theorem ltL_ord : Ord3 ltL where
  tr := fun {a b c} h k => by
    induction a generalizing b c with
    | nil =>
      cases c with
      | nil => cases b <;> cases k
      | cons z c => rfl
    | cons x a ih =>
      cases b with
      | nil => cases h
      | cons y b =>
        cases c with
        | nil => cases k
        | cons z c =>
          unfold ltL at h k ⊢
          by_cases h1 : x = y
          · subst h1
            rw [if_pos rfl] at h
            by_cases h2 : x = z
            · rw [if_pos h2] at k ⊢
              exact ih h k
            · rw [if_neg h2] at k ⊢
              exact k
          · rw [if_neg h1] at h
            have h := of_decide_eq_true h
            by_cases h2 : y = z
            · subst h2
              rw [if_neg h1]
              exact decide_eq_true h
            · rw [if_neg h2] at k
              have k := of_decide_eq_true k
              rw [if_neg (by omega)]
              exact decide_eq_true (by omega)
  tot := fun {a b} h k => by
    induction a generalizing b with
    | nil =>
      cases b with
      | nil => exact absurd rfl k
      | cons y b => cases h
    | cons x a ih =>
      cases b with
      | nil => rfl
      | cons y b =>
        unfold ltL at h ⊢
        by_cases h1 : x = y
        · subst h1
          rw [if_pos rfl] at h ⊢
          exact ih h fun z => k (by rw [z])
        · rw [if_neg h1] at h
          have h := of_decide_eq_false h
          rw [if_neg (Ne.symm h1)]
          exact decide_eq_true (by omega)
  irr := fun a => by
    induction a with
    | nil => rfl
    | cons x a ih => unfold ltL; rw [if_pos rfl]; exact ih
theorem alike_I : ∀ {cs : List (List Int)}, allAlike (cs.map encI) = true := by
  intro cs
  have go : ∀ a b : List Int, alikes (a.map D.int) (b.map D.int) = true := by
    intro a
    induction a with
    | nil => intro b; cases b <;> simp [alikes]
    | cons x a ih =>
      intro b
      cases b with
      | nil => simp [alikes]
      | cons y b => rw [List.map_cons, List.map_cons, alikes, alike, ih]; rfl
  unfold allAlike
  rw [List.all_eq_true]
  intro d hd
  rw [List.all_eq_true]
  intro e he
  obtain ⟨a, _, rfl⟩ := List.mem_map.mp hd
  obtain ⟨b, _, rfl⟩ := List.mem_map.mp he
  rw [alike]
  exact go a b
theorem depth_I (c : List Int) : depth (encI c) ≤ 1 := by
  have := depths_map (f := D.int) (n := 0) (fun i => by simp) c
  rw [depth_t]; omega
theorem depths_I (cs : List (List Int)) : depths (cs.map encI) ≤ 1 := depths_map depth_I cs
theorem keyT_I (c : List Int) : keyT (encI c) = true := by
  show (c.map D.int).all isInt = true
  rw [List.all_map, List.all_eq_true]
  intro i _
  rfl
/-! ### all counts, and those that no others beat -/
def leL : List Int → List Int → Bool
  | [], [] => true
  | x :: xs, y :: ys => decide (x ≤ y) && leL xs ys
  | _, _ => false
theorem leL_trans : ∀ {a b c : List Int}, leL a b = true → leL b c = true → leL a c = true
  | [], [], [], _, _ => rfl
  | [], [], _ :: _, _, k => by cases k
  | [], _ :: _, _, h, _ => by cases h
  | _ :: _, [], _, h, _ => by cases h
  | _ :: _, _ :: _, [], _, k => by cases k
  | x :: a, y :: b, z :: c, h, k => by
    unfold leL at h k ⊢
    rw [Bool.and_eq_true, decide_eq_true_eq] at h k ⊢
    exact ⟨by omega, leL_trans h.2 k.2⟩
theorem leL_anti : ∀ {a b : List Int}, leL a b = true → leL b a = true → a = b
  | [], [], _, _ => rfl
  | [], _ :: _, h, _ => by cases h
  | _ :: _, [], h, _ => by cases h
  | x :: a, y :: b, h, k => by
    unfold leL at h k
    rw [Bool.and_eq_true, decide_eq_true_eq] at h k
    rw [leL_anti h.2 k.2, show x = y by omega]
theorem leL_lt : ∀ {a b : List Int}, leL a b = true → a ≠ b → ltL a b = true
  | [], [], _, k => absurd rfl k
  | [], _ :: _, h, _ => by cases h
  | _ :: _, [], h, _ => by cases h
  | x :: a, y :: b, h, k => by
    unfold leL at h
    rw [Bool.and_eq_true, decide_eq_true_eq] at h
    unfold ltL
    by_cases e : x = y
    · rw [if_pos e]
      exact leL_lt h.2 fun z => k (by rw [e, z])
    · rw [if_neg e]
      exact decide_eq_true (by omega)
theorem leL_refl : ∀ a : List Int, leL a a = true
  | [] => rfl
  | x :: a => by unfold leL; rw [leL_refl a]; simp
theorem leL_zip : ∀ {a b : List Int} (pre : List Int), a.length = b.length → (a.zipIdx pre.length).all (fun p => decide (p.1 ≤ nth (pre ++ b) p.2)) = leL a b
  | [], [], _, _ => rfl
  | [], _ :: _, _, h => by cases h
  | _ :: _, [], _, h => by cases h
  | x :: a, y :: b, pre, h => by
    rw [List.zipIdx_cons, List.all_cons]
    have h1 : nth (pre ++ y :: b) pre.length = y := nth_of (by simp)
    have h2 := leL_zip (a := a) (b := b) (pre ++ [y]) (by simpa using h)
    rw [List.length_append, List.append_assoc] at h2
    simp only [h1]
    unfold leL
    rw [← h2]
    rfl
/-- nowhere more, and somewhere less -/
def dom (c d : List Int) : Bool := decide (c ≠ d) && leL c d
theorem dom_trans {a b c : List Int} (h : dom a b = true) (k : dom b c = true) : dom a c = true := by
  unfold dom at *
  rw [Bool.and_eq_true, decide_eq_true_eq] at *
  refine ⟨fun e => ?_, leL_trans h.2 k.2⟩
  subst e
  exact h.1 (leL_anti h.2 k.2)
theorem dom_lt {a b : List Int} (h : dom a b = true) : ltL a b = true := by
  unfold dom at h
  rw [Bool.and_eq_true, decide_eq_true_eq] at h
  exact leL_lt h.2 h.1
/-- the program's way: by those that are kept already -/
def keepS (k : List (List Int)) (c : List Int) : List (List Int) := if k.any (fun e => dom e c) then k else k ++ [c]
def keepF (cs : List (List Int)) : List (List Int) := cs.foldl keepS []
/-- one that is beaten is beaten by one that is not, ahead of it -/
theorem least_beats {L : List (List Int)} (hA : AscG ltL L) {c e : List Int} (he : e ∈ L) (hd : dom e c = true) : ∃ k ∈ L, dom k c = true ∧ L.any (fun f => dom f k) = false := by
  have hs : (L.find? fun e => dom e c).isSome = true := by
    rw [List.find?_isSome]
    exact ⟨e, he, hd⟩
  obtain ⟨k, hk⟩ := Option.isSome_iff_exists.mp hs
  obtain ⟨h1, as, bs, rfl, h2⟩ := List.find?_eq_some_iff_append.mp hk
  refine ⟨k, List.mem_append_right _ (List.mem_cons_self ..), h1, ?_⟩
  rw [← Bool.not_eq_true, List.any_eq_true]
  rintro ⟨f, hf, hfk⟩
  have hA2 := List.pairwise_append.mp hA
  rcases List.mem_append.mp hf with h | h
  · have := h2 f h
    rw [dom_trans hfk h1] at this
    cases this
  · have hlt := dom_lt hfk
    rcases List.mem_cons.mp h with rfl | h
    · rw [ltL_ord.irr] at hlt; cases hlt
    · have := ltL_ord.tr hlt ((List.pairwise_cons.mp hA2.2.1).1 f h)
      rw [ltL_ord.irr] at this; cases this
theorem keep_filter {cs : List (List Int)} (hA : AscG ltL cs) : keepF cs = cs.filter fun c => !(cs.any fun e => dom e c) := by
  have go : ∀ (post pre : List (List Int)), AscG ltL (pre ++ post) → post.foldl keepS (pre.filter fun c => !(pre ++ post).any fun e => dom e c) = (pre ++ post).filter fun c => !(pre ++ post).any fun e => dom e c := by
    intro post
    induction post with
    | nil => intro pre _; simp
    | cons c post ih =>
      intro pre hA
      have hA2 := List.pairwise_append.mp hA
      rw [List.foldl_cons]
      show List.foldl keepS (if (pre.filter fun x => !(pre ++ c :: post).any fun e => dom e x).any (fun e => dom e c) then _ else _) post = _
      have key : (pre.filter fun x => !(pre ++ c :: post).any fun e => dom e x).any (fun e => dom e c) = (pre ++ c :: post).any fun e => dom e c := by
        rw [Bool.eq_iff_iff, List.any_eq_true, List.any_eq_true]
        constructor
        · rintro ⟨e, he, hd⟩
          exact ⟨e, List.mem_append_left _ (List.mem_filter.mp he).1, hd⟩
        · rintro ⟨e, he, hd⟩
          obtain ⟨k, h1, h2, h3⟩ := least_beats hA he hd
          refine ⟨k, List.mem_filter.mpr ⟨?_, by rw [h3]; rfl⟩, h2⟩
          have hlt := dom_lt h2
          rcases List.mem_append.mp h1 with h | h
          · exact h
          · rcases List.mem_cons.mp h with rfl | h
            · rw [ltL_ord.irr] at hlt; cases hlt
            · have := ltL_ord.tr hlt ((List.pairwise_cons.mp hA2.2.1).1 k h)
              rw [ltL_ord.irr] at this; cases this
      have e1 : pre ++ c :: post = (pre ++ [c]) ++ post := by simp
      rw [key]
      have ih := ih (pre ++ [c]) (by rw [← e1]; exact hA)
      rw [← e1] at ih
      rw [← ih, List.filter_append]
      congr 1
      cases h : (pre ++ c :: post).any fun e => dom e c with
      | true => rw [if_pos rfl, List.filter_cons_of_neg (by simp only [h]; decide), List.filter_nil, List.append_nil]
      | false => rw [if_neg (by decide), List.filter_cons_of_pos (by simp only [h]; rfl), List.filter_nil]
  have := go cs [] hA
  rw [List.nil_append, List.filter_nil] at this
  exact this
/-! ### the program -/
def ac (t u : Tb) : List (List Int) := uniG [] ((als t u).map (cnt t u))
def frt (t u : Tb) : List (List Int) := keepF (sortG ltL (ac t u))
theorem ac_mem {t u : Tb} {c : List Int} : c ∈ ac t u ↔ ∃ a ∈ als t u, cnt t u a = c := by
  unfold ac
  rw [mem_uniG]
  simp
theorem ac_len5 {t u : Tb} {c : List Int} (h : c ∈ ac t u) : c.length = 5 := by
  obtain ⟨a, _, rfl⟩ := ac_mem.mp h
  rfl
theorem frt_mem {t u : Tb} {c : List Int} : c ∈ frt t u ↔ c ∈ ac t u ∧ ∀ e ∈ ac t u, dom e c = false := by
  unfold frt
  have hn : (ac t u).Nodup := uniG_nodup List.nodup_nil
  rw [keep_filter (sortG_asc ltL_ord hn), List.mem_filter, (sortG_perm ltL _).mem_iff]
  constructor
  · rintro ⟨h1, h2⟩
    refine ⟨h1, fun e he => ?_⟩
    rw [Bool.not_eq_true', ← Bool.not_eq_true, List.any_eq_true] at h2
    cases hd : dom e c with
    | false => rfl
    | true => exact absurd ⟨e, (sortG_perm ltL _).mem_iff.mpr he, hd⟩ h2
  · rintro ⟨h1, h2⟩
    refine ⟨h1, ?_⟩
    rw [Bool.not_eq_true', ← Bool.not_eq_true, List.any_eq_true]
    rintro ⟨e, he, hd⟩
    rw [h2 e ((sortG_perm ltL _).mem_iff.mp he)] at hd
    cases hd
theorem frt_len (t u : Tb) : (frt t u).length ≤ (ac t u).length := by
  have hn : (ac t u).Nodup := uniG_nodup List.nodup_nil
  unfold frt
  rw [keep_filter (sortG_asc ltL_ord hn)]
  exact Nat.le_trans (List.length_filter_le _ _) (Nat.le_of_eq (sortG_perm ltL (ac t u)).length_eq)
theorem keys_ent (cs : List (List Int)) : (cs.map (entG encI)).map (·.1) = cs.map encI := by rw [List.map_map]; rfl
section
variable {t u : Tb} {wide tall : Nat} (T : TOk t wide tall) (U : TOk u wide tall) (hw : wide ≤ 3) (ht : tall ≤ 3)
include T U hw ht
theorem ac_many : (ac t u).length ≤ 34 * 34 := by
  have := uniG_len ((als t u).map (cnt t u)) []
  have hm := als_many T U hw ht
  rw [List.length_map] at this
  unfold ac
  simp only [List.length_nil] at this
  omega
end
/-! ### what costs less -/
theorem cst_le {c d w : List Int} (hc : c.length = 5) (hd : d.length = 5) (hw : w.length = 5) (hp : ∀ x ∈ w, 1 ≤ x) (h : leL c d = true) : cst c w ≤ cst d w ∧ (c ≠ d → cst c w < cst d w) := by
  match c, d, w, hc, hd, hw with
  | [c0, c1, c2, c3, c4], [d0, d1, d2, d3, d4], [w0, w1, w2, w3, w4], _, _, _ =>
    simp only [leL, Bool.and_eq_true, decide_eq_true_eq] at h
    have p0 := hp w0 (by simp)
    have p1 := hp w1 (by simp)
    have p2 := hp w2 (by simp)
    have p3 := hp w3 (by simp)
    have p4 := hp w4 (by simp)
    have m : ∀ a b w : Int, a ≤ b → 1 ≤ w → a * w ≤ b * w := fun a b w h k => Int.mul_le_mul_of_nonneg_right h (by omega)
    have n : ∀ a b w : Int, a < b → 1 ≤ w → a * w < b * w := fun a b w h k => Int.mul_lt_mul_of_pos_right h (by omega)
    have ec : ∀ a0 a1 a2 a3 a4 : Int, cst [a0, a1, a2, a3, a4] [w0, w1, w2, w3, w4] = a0 * w0 + (a1 * w1 + (a2 * w2 + (a3 * w3 + a4 * w4))) := fun a0 a1 a2 a3 a4 => by
      simp [cst, List.zipIdx_cons, nth]
    rw [ec, ec]
    have q0 := m c0 d0 w0 h.1 p0
    have q1 := m c1 d1 w1 h.2.1 p1
    have q2 := m c2 d2 w2 h.2.2.1 p2
    have q3 := m c3 d3 w3 h.2.2.2.1 p3
    have q4 := m c4 d4 w4 h.2.2.2.2.1 p4
    refine ⟨by omega, fun hne => ?_⟩
    by_cases e0 : c0 = d0
    · by_cases e1 : c1 = d1
      · by_cases e2 : c2 = d2
        · by_cases e3 : c3 = d3
          · by_cases e4 : c4 = d4
            · exact absurd (by rw [e0, e1, e2, e3, e4]) hne
            · have := n c4 d4 w4 (by omega) p4; omega
          · have := n c3 d3 w3 (by omega) p3; omega
        · have := n c2 d2 w2 (by omega) p2; omega
      · have := n c1 d1 w1 (by omega) p1; omega
    · have := n c0 d0 w0 (by omega) p0; omega
theorem dom_cost {c d w : List Int} (hc : c.length = 5) (hd : d.length = 5) (hw : w.length = 5) (hp : ∀ x ∈ w, 1 ≤ x) (h : dom c d = true) : cst c w < cst d w := by
  unfold dom at h
  rw [Bool.and_eq_true, decide_eq_true_eq] at h
  exact (cst_le hc hd hw hp h.2).2 h.1
/-! ### weights of any size, mixtures -/
structure W5 (w : List Int) : Prop where
  len : w.length = 5
  lo : ∀ x ∈ w, 1 ≤ x
  hi : ∀ x ∈ w, x ≤ 1000000000
theorem WOk.w5 {w : List Int} (h : WOk w) : W5 w := ⟨h.len, h.lo, fun x hx => by have := h.hi x hx; omega⟩
theorem w5_mul {w : List Int} (h : W5 w) {i : Nat} (hi : i < 5) (x : Int) : mulOk x (nth w i) = true := by
  have hm : nth w i ∈ w := nth_mem (by rw [h.len]; exact hi)
  have h1 := h.lo _ hm
  have h2 := h.hi _ hm
  exact mul_right (by omega)
theorem zip_lt5 {c : List Int} (hc : c.length = 5) {p : Int × Nat} (hp : p ∈ c.zipIdx) : p.2 < 5 := by
  obtain ⟨x, i⟩ := p
  have := (List.mem_zipIdx' hp).1
  simp only; omega
/-- least among others -/
def isLst (own : List Int) (others : List (List Int)) (w : List Int) : Bool := others.all fun e => decide (cst own w ≤ cst e w)
/-- least among those that no others beat: least among all -/
theorem isLst_front {t u : Tb} {own w : List Int} (h : W5 w) : isLst own (frt t u) w = isLst own (ac t u) w := by
  unfold isLst
  rw [Bool.eq_iff_iff, List.all_eq_true, List.all_eq_true]
  constructor
  · intro hf e he
    by_cases hfe : e ∈ frt t u
    · exact hf e hfe
    · have hn : (ac t u).Nodup := uniG_nodup List.nodup_nil
      have hA := sortG_asc ltL_ord hn
      have hex : ∃ x ∈ ac t u, dom x e = true := by
        by_cases h1 : ∃ x ∈ ac t u, dom x e = true
        · exact h1
        · exfalso
          refine hfe (frt_mem.mpr ⟨he, fun x hx => ?_⟩)
          cases hd : dom x e with
          | false => rfl
          | true => exact absurd ⟨x, hx, hd⟩ h1
      obtain ⟨x, hx, hd⟩ := hex
      obtain ⟨k, hk, h2, h3⟩ := least_beats hA ((sortG_perm ltL _).mem_iff.mpr hx) hd
      have hk' := (sortG_perm ltL _).mem_iff.mp hk
      have hkf : k ∈ frt t u := frt_mem.mpr ⟨hk', fun y hy => by
        rw [← Bool.not_eq_true, List.any_eq_true] at h3
        cases hd : dom y k with
        | false => rfl
        | true => exact absurd ⟨y, (sortG_perm ltL _).mem_iff.mpr hy, hd⟩ h3⟩
      have h4 := hf k hkf
      rw [decide_eq_true_eq] at h4 ⊢
      have := dom_cost (ac_len5 hk') (ac_len5 he) h.len h.lo h2
      omega
  · intro ha e he
    exact ha e (frt_mem.mp he).1
/-! ### mixtures -/
abbrev Sh := List Int × Int
abbrev encSh (x : Sh) : D := .tup [encI x.1, .int x.2]
def wholeS (sh : List Sh) : Int := (sh.map (·.2)).sum
def gap (own : List Int) (sh : List Sh) (i : Nat) : Int := nth own i * wholeS sh - (sh.map fun x => nth x.1 i * x.2).sum
def gaps (own : List Int) (sh : List Sh) : List Int := (List.range 5).map (gap own sh)
def better (own : List Int) (sh : List Sh) : Bool := decide (0 ≤ (gaps own sh).tail.foldl min (gap own sh 0)) && decide (0 < (gaps own sh).tail.foldl max (gap own sh 0))
structure ShOk (t u : Tb) (sh : List Sh) : Prop where
  ne : sh ≠ []
  len : sh.length ≤ 1000000
  inn : ∀ x ∈ sh, x.1 ∈ ac t u
  lo : ∀ x ∈ sh, 1 ≤ x.2
  hi : ∀ x ∈ sh, x.2.natAbs < 18446744073709551616
/-! ### the judge -/
abbrev wS : D := .str [119, 101, 105, 103, 104, 116, 115]
abbrev mS : D := .str [109, 105, 120, 116, 117, 114, 101]
section
variable {t u : Tb} {wide tall : Nat} (T : TOk t wide tall) (U : TOk u wide tall) (hw : wide ≤ 3) (ht : tall ≤ 3)
include T U hw ht
end
end Hd
end
section
set_option Elab.async false
set_option linter.all false
set_option maxRecDepth 100000
namespace Hd
open G
def trn (t : Tb) : Tb := ⟨t.ns.reverse, (t.rs.map List.reverse).reverse⟩
theorem trn_ns (t : Tb) : (trn t).ns.length = t.ns.length := List.length_reverse
theorem trn_rs (t : Tb) : (trn t).rs.length = t.rs.length := by
  show (t.rs.map List.reverse).reverse.length = _
  rw [List.length_reverse, List.length_map]
theorem trn_trn (t : Tb) : trn (trn t) = t := by
  unfold trn
  cases t
  simp
  rw [show (List.reverse ∘ List.reverse : List D → List D) = id from funext fun x => List.reverse_reverse x, List.map_id]
theorem trn_ok {t : Tb} {wide tall : Nat} (T : TOk t wide tall) : TOk (trn t) wide tall where
  one := by rw [trn_ns]; exact T.one
  wide := by rw [trn_ns]; exact T.wide
  tall := by rw [trn_rs]; exact T.tall
  nd := (List.reverse_perm t.ns).nodup_iff.mpr T.nd
  nm := fun n hn => T.nm n (List.mem_reverse.mp hn)
  row := fun r hr => by
    obtain ⟨r', hr', rfl⟩ := List.mem_map.mp (List.mem_reverse.mp hr)
    rw [List.length_reverse, trn_ns]
    exact T.row r' hr'
  val := fun r hr d hd => by
    obtain ⟨r', hr', rfl⟩ := List.mem_map.mp (List.mem_reverse.mp hr)
    exact T.val r' hr' d (List.mem_reverse.mp hd)

theorem s_backward (s : Sto) (ds : List D) : f_backward [.d (.tup ds)] s = .ok (.d (.tup ds.reverse)) s := by
  unfold f_backward
  rw [evF_eq rfl]
  simp [c_backward]
theorem s_turned {t : Tb} {wide tall : Nat} (T : TOk t wide tall) (hw : wide ≤ 4) (ht : tall ≤ 4) (s : Sto) : f_turned [.d (encT t)] s = .ok (.d (encT (trn t))) s := by
  have t1 := T.tall
  have e1 := s_need_table t wide tall T (by omega) (by omega) s
  unfold f_turned
  rw [evF_eq rfl]
  simp [c_turned, e1, s_backward]
  rw [← List.map_reverse, lc_map (enc := D.tup) (g := fun r => .tup r.reverse) (fun r hr => by simp [s_backward]) (by rw [List.length_reverse]; unfold lim; omega)]
  simp [trn]

/-! ### what is a table -/
section
variable {t : Tb} (T : TOk t 4 4)
include T
theorem is_tb (s : Sto) (rs : List D) (p : D → Bool) (hl : rs.length ≤ 1000) (h : ∀ r ∈ rs, f_is_row [.d r, .d (.int t.ns.length)] s = .ok (.d (.bl (p r))) s) : f_is_table [.d (.tup [.tup (t.ns.map D.str), .tup rs])] s = .ok (.d (.bl (decide (rs.length ≤ 4) && rs.all p))) s := by
  unfold f_is_table
  rw [evF_eq rfl]
  have w1 := T.one
  have w2 := T.wide
  have hl1 : (1 : Int) ≤ t.ns.length := by omega
  have hl2 : (t.ns.length : Int) ≤ 4 := by omega
  have hl5 : t.ns.length ≤ 1000 := by omega
  simp [c_is_table, hl1, hl2, eqD]
  rw [lc_map (enc := D.str) (g := fun _ => .bl true) (fun x hx => by simp [s_is_name x s (T.nm x hx)]) (by unfold lim; omega)]
  by_cases h4 : rs.length ≤ 4
  · have hl4 : ¬ ((4 : Int) < rs.length) := by omega
    simp [flatS, hl5, unlike_str t.ns T.nd, eqD, hl4, h4]
    rw [lc_id (g := fun r => D.bl (p r)) (fun r hr => by simp [h r hr]) (by unfold lim; omega)]
    simp [allM_blf]
  · have hl4 : (4 : Int) < rs.length := by omega
    simp [flatS, hl5, unlike_str t.ns T.nd, eqD, hl4, h4]
theorem is_tb_lst (s : Sto) (rs : List D) : f_is_table [.d (.tup [.tup (t.ns.map D.str), .lst rs])] s = .ok (.d (.bl false)) s := by
  unfold f_is_table
  rw [evF_eq rfl]
  have w1 := T.one
  have w2 := T.wide
  have hl1 : (1 : Int) ≤ t.ns.length := by omega
  have hl2 : (t.ns.length : Int) ≤ 4 := by omega
  have hl5 : t.ns.length ≤ 1000 := by omega
  simp [c_is_table, hl1, hl2, eqD]
  rw [lc_map (enc := D.str) (g := fun _ => .bl true) (fun x hx => by simp [s_is_name x s (T.nm x hx)]) (by unfold lim; omega)]
  simp [flatS, hl5, unlike_str t.ns T.nd, eqD]
theorem metD_str (ns : List (List Nat)) (h : ns.Nodup) (x : List Nat) (hx : x ∈ ns) : unlike ((ns ++ [x]).map D.str) = ns.length := by
  have go : ∀ (acc ns : List (List Nat)), (acc ++ ns).Nodup → (ns.map D.str).foldl (fun acc d => if inD d acc then acc else acc ++ [d]) (acc.map D.str) = (acc ++ ns).map D.str := by
    intro acc ns
    induction ns generalizing acc with
    | nil => intro _; simp
    | cons n ns ih =>
      intro hd
      rw [List.map_cons, List.foldl_cons, inD_str]
      have : acc.contains n = false := by
        rw [← Bool.not_eq_true, List.contains_iff_mem]
        intro hm
        rw [List.nodup_append] at hd
        exact hd.2.2 n hm n (List.mem_cons_self ..) rfl
      rw [this]
      have := ih (acc ++ [n]) (by simpa using hd)
      simpa using this
  unfold unlike metD
  have := go [] ns (by simpa using h)
  rw [List.map_nil, List.nil_append] at this
  rw [List.map_append, List.foldl_append, this, List.map_cons, List.map_nil, List.foldl_cons, List.foldl_nil, inD_str, List.contains_iff_mem.mpr hx, if_pos rfl, List.length_map]
theorem is_tb_twice (s : Sto) (d : D) : f_is_table [.d (.tup [.tup (t.ns.map D.str ++ (t.ns.map D.str).take 1), d])] s = .ok (.d (.bl false)) s := by
  have w1 := T.one
  have w2 := T.wide
  obtain ⟨x, r, e⟩ : ∃ x r, t.ns = x :: r := by
    cases h : t.ns with
    | nil => rw [h] at w1; simp at w1
    | cons x r => exact ⟨x, r, rfl⟩
  have hx : x ∈ t.ns := by rw [e]; exact List.mem_cons_self
  have e2 : t.ns.map D.str ++ (t.ns.map D.str).take 1 = (t.ns ++ [x]).map D.str := by rw [List.map_append, e]; rfl
  have hu := metD_str T t.ns T.nd x hx
  have hlen : (t.ns ++ [x]).length = t.ns.length + 1 := by simp
  rw [e2]
  generalize hns : t.ns ++ [x] = ns at hu hlen
  have hnm : ∀ n ∈ ns, isNm (.str n) = true := by
    intro n hn
    rw [← hns] at hn
    rcases List.mem_append.mp hn with h | h
    · exact T.nm n h
    · rw [List.mem_singleton.mp h]; exact T.nm x hx
  unfold f_is_table
  rw [evF_eq rfl]
  have hl1 : (1 : Int) ≤ ns.length := by omega
  by_cases h5 : ns.length ≤ 4
  · have hl2 : (ns.length : Int) ≤ 4 := by omega
    have hl5 : ns.length ≤ 1000 := by omega
    have hne : ¬ ((t.ns.length : Int) = ns.length) := by omega
    have hneb : ((t.ns.length : Int) == ns.length) = false := beq_eq_false_iff_ne.mpr hne
    simp [c_is_table, hl1, hl2, eqD]
    rw [lc_map (enc := D.str) (g := fun _ => .bl true) (fun x hx => by simp [s_is_name x s (hnm x hx)]) (by unfold lim; omega)]
    simp [flatS, hl5, hu, eqD, hneb]
  · have hl2 : ¬ ((ns.length : Int) ≤ 4) := by omega
    simp [c_is_table, hl1, hl2, eqD]
theorem is_tb_name (s : Sto) (x : List Nat) (d : D) (hx : f_is_name [.d (.str x)] s = .ok (.d (.bl false)) s) : f_is_table [.d (.tup [.tup (.str x :: (t.ns.map D.str).drop 1), d])] s = .ok (.d (.bl false)) s := by
  have w1 := T.one
  have w2 := T.wide
  have e2 : D.str x :: (t.ns.map D.str).drop 1 = (x :: t.ns.drop 1).map D.str := by rw [List.map_cons, List.map_drop]
  rw [e2]
  have hlen : (x :: t.ns.drop 1).length = t.ns.length := by simp; omega
  unfold f_is_table
  rw [evF_eq rfl]
  have hl1 : (1 : Int) ≤ (x :: t.ns.drop 1).length := by omega
  have hl2 : ((x :: t.ns.drop 1).length : Int) ≤ 4 := by omega
  obtain ⟨gb, hg, hall⟩ : ∃ gb : List Nat → Bool, (∀ n ∈ x :: t.ns.drop 1, f_is_name [.d (.str n)] s = .ok (.d (.bl (gb n))) s) ∧ (x :: t.ns.drop 1).all gb = false := by
    refine ⟨fun n => decide (n ≠ x), fun n hn => ?_, ?_⟩
    · by_cases e : n = x
      · subst e
        rw [hx]
        simp
      · rcases List.mem_cons.mp hn with h | h
        · exact absurd h e
        · rw [s_is_name n s (T.nm n (List.mem_of_mem_drop h))]
          simp [e]
    · rw [List.all_cons]
      simp
  generalize hns : x :: t.ns.drop 1 = ns at *
  have hm := allM_blf gb ns
  have hall2 : (ns.map gb).all id = false := by rw [List.all_map]; exact hall
  simp [c_is_table, hl1, hl2, eqD]
  rw [lc_map (enc := D.str) (g := fun n => .bl (gb n)) (fun n hn => by simp [hg n hn]) (by unfold lim; omega)]
  simp [hm, hall2]
end
end Hd
end
section
set_option Elab.async false
set_option linter.all false
set_option maxRecDepth 100000
namespace Hd
open G
theorem row_len (s : Sto) {r : List D} {n : Nat} (h : r.length ≠ n) : f_is_row [.d (.tup r), .d (.int n)] s = .ok (.d (.bl false)) s := by
  unfold f_is_row
  rw [evF_eq rfl]
  have hb : ((r.length : Int) == (n : Int)) = false := beq_eq_false_iff_ne.mpr (by omega)
  simp [c_is_row, eqD, hb]
theorem row_val (s : Sto) {r : List D} {n : Nat} (h : r.length = n) (hn : n ≤ 1000) (h0 : r ≠ []) (hv : ∀ d ∈ r, f_is_value [.d d] s = .ok (.d (.bl false)) s) : f_is_row [.d (.tup r), .d (.int n)] s = .ok (.d (.bl false)) s := by
  unfold f_is_row
  rw [evF_eq rfl]
  simp [c_is_row, h, eqD]
  rw [lc_id (g := fun _ => D.bl false) (fun d hd => by simp [hv d hd]) (by unfold lim; omega)]
  have hm := allM_blf (fun _ : D => false) r
  have ha : (r.map fun _ => false).all id = false := by
    cases r with
    | nil => exact absurd rfl h0
    | cons d r => rfl
  simp [hm, ha]
theorem rep_len (n : Nat) (d : D) : (rep n [d]).length = n := by simp [rep]
theorem rep_mem {n : Nat} {d e : D} (h : e ∈ rep n [d]) : e = d := by
  unfold rep at h
  obtain ⟨l, hl, he⟩ := List.mem_flatten.mp h
  rw [List.eq_of_mem_replicate hl] at he
  exact List.mem_singleton.mp he
def nmsD (t : Tb) : D := .tup (t.ns.map D.str)
abbrev sA5 : List Nat := [97, 98, 99, 100, 101]
abbrev sA8 : List Nat := [97, 98, 99, 100, 101, 102, 103, 104]
def badT (t : Tb) : List D :=
  [.tup [nmsD t, .tup (t.rs.map D.tup ++ [.tup (rep (t.ns.length + 1) [.int 0])])],
   .tup [.tup (t.ns.map D.str ++ (t.ns.map D.str).take 1), .tup (t.rs.map fun r => .tup (r ++ [.int 0]))],
   .tup [nmsD t, .lst (t.rs.map D.tup)], .tup [.tup [], .tup []], .tup [.tup (.str sA5 :: (t.ns.map D.str).drop 1), .tup (t.rs.map D.tup)], .tup [.tup (.str [] :: (t.ns.map D.str).drop 1), .tup (t.rs.map D.tup)],
   .tup [nmsD t, .tup [.tup (rep t.ns.length [.int 100])]], .tup [nmsD t, .tup [.tup (rep t.ns.length [.bl true])]], .tup [nmsD t, .tup [.tup (rep t.ns.length [.str []])]],
   .tup [nmsD t, .tup [.tup (rep t.ns.length [.str sA8])]], .tup [nmsD t, .tup [.tup (rep t.ns.length [.str [65]])]],
   .tup [nmsD t, .tup (rep 5 [.tup (rep t.ns.length [.int 0])])],
   .tup [nmsD t], nmsD t, .non, .tup [.tup [.str [97], .str [98], .str [99], .str [100], .str [101]], .tup []], .tup [nmsD t, .tup [.tup (rep t.ns.length [.non])]]]
section
variable {t : Tb} (T : TOk t 4 4)
include T
theorem tb_row (s : Sto) (d : D) (hv : f_is_value [.d d] s = .ok (.d (.bl false)) s) : f_is_table [.d (.tup [nmsD t, .tup [.tup (rep t.ns.length [d])]])] s = .ok (.d (.bl false)) s := by
  have w1 := T.one
  have w2 := T.wide
  refine (is_tb T s [.tup (rep t.ns.length [d])] (fun _ => false) (by simp) fun r hr => ?_).trans (by simp)
  rw [List.mem_singleton.mp hr]
  refine row_val s (rep_len _ _) (by omega) (fun z => ?_) (fun e he => by rw [rep_mem he]; exact hv)
  have := rep_len t.ns.length d
  rw [z] at this
  simp at this
  omega
theorem bad_no (s : Sto) : ∀ b ∈ badT t, f_is_table [.d b] s = .ok (.d (.bl false)) s := by
  have w1 := T.one
  have w2 := T.wide
  have w3 := T.tall
  intro b hb
  simp only [badT, List.mem_cons, List.not_mem_nil, or_false] at hb
  rcases hb with rfl | rfl | rfl | rfl | rfl | rfl | rfl | rfl | rfl | rfl | rfl | rfl | rfl | rfl | rfl | rfl | rfl
  · refine (is_tb T s (t.rs.map D.tup ++ [.tup (rep (t.ns.length + 1) [.int 0])]) (fun r => match r with | .tup xs => decide (xs.length = t.ns.length) | _ => false) (by simp; omega) fun r hr => ?_).trans ?_
    · rcases List.mem_append.mp hr with hr | hr
      · obtain ⟨r', hr', rfl⟩ := List.mem_map.mp hr
        rw [s_is_row r' t.ns.length s (T.row r' hr') (by omega) (T.val r' hr')]
        simp [T.row r' hr']
      · rw [List.mem_singleton.mp hr, row_len s (by rw [rep_len]; omega)]
        simp [rep_len]
    · rw [List.all_append]
      simp [rep_len]
  · exact is_tb_twice T s _
  · exact is_tb_lst T s _
  · kernel_rfl
  · exact is_tb_name T s sA5 _ (by kernel_rfl)
  · exact is_tb_name T s [] _ (by kernel_rfl)
  · exact tb_row T s _ (by kernel_rfl)
  · exact tb_row T s _ (by kernel_rfl)
  · exact tb_row T s _ (by kernel_rfl)
  · exact tb_row T s _ (by kernel_rfl)
  · exact tb_row T s _ (by kernel_rfl)
  · refine (is_tb T s _ (fun _ => true) (by rw [rep_len]; omega) fun r hr => ?_).trans (by rw [rep_len]; simp)
    rw [rep_mem hr]
    exact s_is_row _ _ s (rep_len _ _) (by omega) fun d hd => by rw [rep_mem hd]; rfl
  · unfold f_is_table; rw [evF_eq rfl]; simp [c_is_table, eqD]
  · unfold nmsD
    by_cases h2 : t.ns.length = 2
    · obtain ⟨x, y, e⟩ : ∃ x y, t.ns = [x, y] := by
        match h : t.ns, h2 with
        | [x, y], _ => exact ⟨x, y, rfl⟩
      rw [e]
      unfold f_is_table; rw [evF_eq rfl]; simp [c_is_table, eqD]
    · have hb : ((t.ns.length : Int) == 2) = false := beq_eq_false_iff_ne.mpr (by omega)
      unfold f_is_table; rw [evF_eq rfl]; simp [c_is_table, eqD, hb]
  · kernel_rfl
  · kernel_rfl
  · exact tb_row T s _ (by kernel_rfl)
theorem bad_turned (s : Sto) : ∀ b ∈ badT t, f_turned [.d b] s = .exc 0 s := by
  intro b hb
  have e : f_need_table [.d b] s = .exc 0 s := by
    unfold f_need_table
    rw [evF_eq rfl]
    simp [c_need_table, bad_no T s b hb]
  unfold f_turned
  rw [evF_eq rfl]
  simp [c_turned, e]
/-! ### columns -/
omit T in
theorem index_str {ns : List (List Nat)} (hn : ns.Nodup) {i : Nat} (hi : i < ns.length) : indexD (.str (nth ns i)) (ns.map D.str) = some i := by
  induction ns generalizing i with
  | nil => simp at hi
  | cons n ns ih =>
    rw [List.nodup_cons] at hn
    rw [List.map_cons]
    unfold indexD
    cases i with
    | zero =>
      rw [if_pos]
      show eqD (.str n) (.str n) = true
      exact eqD_refl _
    | succ i =>
      have hi' : i < ns.length := by simpa using hi
      have e : nth (n :: ns) (i + 1) = nth ns i := rfl
      have hne : eqD (.str n) (.str (nth ns i)) = false := by
        rw [eqD_str]
        exact beq_eq_false_iff_ne.mpr fun z => hn.1 (by rw [z]; exact nth_mem hi')
      rw [e, hne, if_neg Bool.false_ne_true, ih hn.2 hi']
      rfl
theorem s_place_of (s : Sto) {i : Nat} (hi : i < t.ns.length) : f_place_of [.d (encT t), .d (.str (nth t.ns i))] s = .ok (.d (.int i)) s := by
  have hm : t.ns.contains (nth t.ns i) = true := List.contains_iff_mem.mpr (nth_mem hi)
  have hix := index_str T.nd hi
  have hin : inD (.str (nth t.ns i)) (t.ns.map D.str) = true := by rw [inD_str]; exact hm
  have hd : ∀ e : D, depthOk (.str (nth t.ns i)) e = true := fun e => depthOk_l (by simp)
  have hfl : (t.ns.map D.str).all flatS = true := by rw [List.all_map]; simp [flatS]
  unfold f_place_of
  rw [evF_eq rfl]
  simp [c_place_of, hin, hd, b2R, hfl, hix, flatS]
theorem s_column_of (s : Sto) {i : Nat} (hi : i < t.ns.length) : f_column_of [.d (encT t), .d (.str (nth t.ns i))] s = .ok (.d (.tup (t.rs.map fun r => nth r i))) s := by
  have e1 := s_need_table t 4 4 T (by decide) (by decide) s
  have e2 := s_place_of T s hi
  have w3 := T.tall
  unfold f_column_of
  rw [evF_eq rfl]
  simp [c_column_of, e1, e2]
  rw [lc_map (enc := D.tup) (g := fun r => nth r i) (fun r hr => ?_) (by unfold lim; omega)]
  · simp
  · have hl : i < r.length := by rw [T.row r hr]; exact hi
    have hg : getI r (i : Int) = some (nth r i) := by rw [getI_n]; exact nth_get hl
    simp [hg]
theorem col_bad (s : Sto) : ∀ b ∈ [D.str [122, 122, 122, 122], D.str [], D.int 0, D.non, D.lst [D.str [97]]], (∀ n ∈ t.ns, n ≠ [122, 122, 122, 122]) → f_column_of [.d (encT t), .d b] s = .exc 1 s := by
  intro b hb hz
  have e1 := s_need_table t 4 4 T (by decide) (by decide) s
  have e2 : f_place_of [.d (encT t), .d b] s = .exc 1 s := by
    unfold f_place_of
    rw [evF_eq rfl]
    simp only [List.mem_cons, List.not_mem_nil, or_false] at hb
    have hd : ∀ x, ∀ e : D, depthOk (.str x) e = true := fun x e => depthOk_l (by simp)
    rcases hb with rfl | rfl | rfl | rfl | rfl
    · have hin : inD (.str [122, 122, 122, 122]) (t.ns.map D.str) = false := by
        rw [inD_str, ← Bool.not_eq_true, List.contains_iff_mem]
        exact fun h => hz _ h rfl
      simp [c_place_of, hin, hd]
    · have hin : inD (.str []) (t.ns.map D.str) = false := by
        rw [inD_str, ← Bool.not_eq_true, List.contains_iff_mem]
        intro h
        have := T.nm [] h
        unfold isNm at this
        simp at this
      simp [c_place_of, hin, hd]
    · simp [c_place_of]
    · simp [c_place_of]
    · simp [c_place_of]
  unfold f_column_of
  rw [evF_eq rfl]
  simp [c_column_of, e1, e2]
end
end Hd
end
section
set_option Elab.async false
set_option linter.all false
set_option maxRecDepth 100000
namespace Hd
open G
theorem s_any_table2 (s : Sto) (h : Dc s) (wide tall : Int) (h0 : 1 ≤ wide) (h1 : wide ≤ 4) (h2 : 0 ≤ tall) (h3 : tall ≤ 4) : Gv (f__law_any_table [.dice, .d (.int wide), .d (.int tall)] s) fun v s' => ∃ t, v = .d (encT t) ∧ TOk t wide.toNat tall.toNat ∧ (∀ n ∈ t.ns, n ≠ [122, 122, 122, 122]) ∧ Dc s' := by
  unfold f__law_any_table
  rw [evF_eq rfl]
  obtain ⟨r, s1, r0, r1, d1, e1⟩ := s_roll s h wide (by omega) (by omega)
  obtain ⟨v, s2, e2, ns, rfl, n1, ⟨left, n2⟩, d2⟩ := s_any_names s1 d1 (1 + r) (by omega) (by omega)
  obtain ⟨q, s3, q0, q1, d3, e3⟩ := s_roll s2 d2 (tall + 1) (by omega) (by omega)
  simp [c__law_any_table, peek, e1, e2, e3, rng_ok (by decide : (0 : Int) ≤ 0) (by decide) q0 (by omega : q ≤ 1000), lim]
  generalize hX : noExc (lcGo _ _ _ _) = X
  have hG : Gv X fun ys s' => ∃ rs : List (List D), ys = rs.map D.tup ∧ rs.length = q.toNat ∧ (∀ r ∈ rs, r.length = ns.length ∧ ∀ d ∈ r, isVal d = true) ∧ Dc s' := by
    rw [← hX]
    refine gv_lc (P := Dc) (R := fun _ y => ∃ ds : List D, y = .tup ds ∧ ds.length = ns.length ∧ ∀ d ∈ ds, isVal d = true) d3 ?_ ?_ ?_
    · intro d hd s hs
      obtain ⟨v, s', e, ds, rfl, l1, l2, l3⟩ := s_any_row s hs (1 + r) (by omega) (by omega)
      exact ⟨some (.tup ds), s', by simp [e], .tup ds, rfl, l3, ds, rfl, by rw [l1, n1], l2⟩
    · rw [range_len]; unfold lim; omega
    · intro ys s' hp hr
      obtain ⟨rs, e, l1, l2⟩ := rows_of hr
      exact ⟨rs, e, by rw [l1, range_len, Int.sub_zero], l2, hp⟩
  obtain ⟨_, s', rfl, rs, rfl, l1, l2, l3⟩ := hG
  simp
  obtain ⟨f1, f2⟩ := five_sub n2
  refine Gv.ok ⟨⟨ns, rs⟩, rfl, ⟨by show 1 ≤ ns.length; omega, by show ns.length ≤ _; omega, by show rs.length ≤ _; omega, f1, f2, fun r hr => (l2 r hr).1, fun r hr => (l2 r hr).2⟩, fun n hn e => ?_, l3⟩
  have hm : n ∈ fiveS := n2.mem_iff.mp (List.mem_append_left _ hn)
  rw [e] at hm
  revert hm
  decide

theorem badT_len (t : Tb) : (badT t).length = 17 := rfl
theorem s_bad_table (s : Sto) (hd : Dc s) {t : Tb} (T : TOk t 4 4) : Gv (f__law_bad_table [.dice, .d (encT t)] s) fun v s' => (∃ b ∈ badT t, v = .d b) ∧ Dc s' := by
  have w1 := T.one
  have w2 := T.wide
  have w3 := T.tall
  have m1 : ∀ (d : D) (s : Sto), binR .mul (.d (.tup [d])) (.d (.int (t.ns.length : Int))) s = .ok (.d (.tup (rep t.ns.length [d]))) s := fun d s => by
    have h1 : (1 : Int) ≤ (t.ns.length : Int) := by omega
    have h2 : (t.ns.length : Int) ≤ 1000 := by omega
    simp [binR, h1, h2, pureR]
  have m2 : ∀ (d : D) (s : Sto), binR .mul (.d (.tup [d])) (.d (.int ((t.ns.length : Int) + 1))) s = .ok (.d (.tup (rep (t.ns.length + 1) [d]))) s := fun d s => by
    have h1 : (1 : Int) ≤ (t.ns.length : Int) + 1 := by omega
    have h2 : (t.ns.length : Int) + 1 ≤ 1000 := by omega
    have h3 : ((t.ns.length : Int) + 1).toNat = t.ns.length + 1 := by omega
    simp [binR, h1, h2, h3, pureR]
  have m5 : ∀ (d : D) (s : Sto), binR .mul (.d (.tup [d])) (.d (.int 5)) s = .ok (.d (.tup (rep 5 [d]))) s := fun d s => by
    simp [binR, pureR]
  have q1 : t.rs.length ≤ 16777215 := by omega
  have q2 : t.ns.length + min 1 t.ns.length ≤ 16777216 := by omega
  have q3 : 1 + (t.ns.length - 1) ≤ 16777216 := by omega
  have q4 : t.ns.length - 1 + 1 ≤ 16777216 := by omega
  have q5 : t.ns.length - 1 ≤ 16777215 := by omega
  have q6 : t.ns.length ≤ 16777216 := by omega
  have q7 : t.ns.length ≤ 16777215 := by omega
  obtain ⟨r, s', r0, r1, d', e⟩ := s_roll s hd 17 (by decide) (by decide)
  unfold f__law_bad_table
  rw [evF_eq rfl]
  unfold c__law_bad_table
  simp only [List.map_cons, List.map_nil]
  rw [evSs_cons]
  refine Gv.nx (Q1 := fun δ sx => sx = s ∧ δ = [.w .dice, .w (.d (encT t)), .w (.d (.tup (t.ns.map D.str))), .w (.d (.tup (t.rs.map D.tup))), .no, .no, .no]) ?_ ?_
  · simp
    exact Nx.of rfl ⟨rfl, rfl⟩
  rintro _ s1 ⟨rfl, rfl⟩
  simp only [contSs_ap]
  rw [evSs_cons]
  refine Gv.nx (Q1 := fun δ sx => sx = s1 ∧ δ = [.w .dice, .w (.d (encT t)), .w (.d (.tup (t.ns.map D.str))), .w (.d (.tup (t.rs.map D.tup))), .w (.d (.int t.ns.length)), .no, .no]) ?_ ?_
  · simp
    exact Nx.of rfl ⟨rfl, rfl⟩
  rintro _ s2 ⟨rfl, rfl⟩
  simp only [contSs_ap]
  rw [evSs_cons]
  refine Gv.nx (Q1 := fun δ sx => sx = s2 ∧ δ = [.w .dice, .w (.d (encT t)), .w (.d (.tup (t.ns.map D.str))), .w (.d (.tup (t.rs.map D.tup))), .w (.d (.int t.ns.length)), .w (.d (.lst ((badT t).take 1))), .no]) ?_ ?_
  · simp [m1, m2, m5, q1, q2, q3, q4, q5, q6, q7, cut01, badT, nmsD, lim]
    exact Nx.of rfl ⟨rfl, rfl⟩
  rintro _ s3 ⟨rfl, rfl⟩
  simp only [contSs_ap]
  rw [evSs_cons]
  refine Gv.nx (Q1 := fun δ sx => sx = s3 ∧ δ = [.w .dice, .w (.d (encT t)), .w (.d (.tup (t.ns.map D.str))), .w (.d (.tup (t.rs.map D.tup))), .w (.d (.int t.ns.length)), .w (.d (.lst ((badT t).take 2))), .no]) ?_ ?_
  · simp [m1, m2, m5, q1, q2, q3, q4, q5, q6, q7, cut01, badT, nmsD, lim]
    rw [lc_map (enc := D.tup) (g := fun r => D.tup (r ++ [D.int 0])) (fun r hr => ?_) (by unfold lim; omega)]
    · simp [lim]
      exact Nx.of rfl ⟨rfl, rfl⟩
    · have hr' := T.row r hr
      have : r.length ≤ 16777215 := by omega
      simp [this, lim]
  rintro _ s4 ⟨rfl, rfl⟩
  simp only [contSs_ap]
  rw [evSs_cons]
  refine Gv.nx (Q1 := fun δ sx => sx = s4 ∧ δ = [.w .dice, .w (.d (encT t)), .w (.d (.tup (t.ns.map D.str))), .w (.d (.tup (t.rs.map D.tup))), .w (.d (.int t.ns.length)), .w (.d (.lst ((badT t).take 6))), .no]) ?_ ?_
  · simp [m1, m2, m5, q1, q2, q3, q4, q5, q6, q7, cut01, badT, nmsD, lim]
    exact Nx.of rfl ⟨rfl, rfl⟩
  rintro _ s5 ⟨rfl, rfl⟩
  simp only [contSs_ap]
  rw [evSs_cons]
  refine Gv.nx (Q1 := fun δ sx => sx = s5 ∧ δ = [.w .dice, .w (.d (encT t)), .w (.d (.tup (t.ns.map D.str))), .w (.d (.tup (t.rs.map D.tup))), .w (.d (.int t.ns.length)), .w (.d (.lst ((badT t).take 9))), .no]) ?_ ?_
  · simp [m1, m2, m5, q1, q2, q3, q4, q5, q6, q7, cut01, badT, nmsD, lim]
    exact Nx.of rfl ⟨rfl, rfl⟩
  rintro _ s6 ⟨rfl, rfl⟩
  simp only [contSs_ap]
  rw [evSs_cons]
  refine Gv.nx (Q1 := fun δ sx => sx = s6 ∧ δ = [.w .dice, .w (.d (encT t)), .w (.d (.tup (t.ns.map D.str))), .w (.d (.tup (t.rs.map D.tup))), .w (.d (.int t.ns.length)), .w (.d (.lst ((badT t).take 11))), .no]) ?_ ?_
  · simp [m1, m2, m5, q1, q2, q3, q4, q5, q6, q7, cut01, badT, nmsD, lim]
    exact Nx.of rfl ⟨rfl, rfl⟩
  rintro _ s7 ⟨rfl, rfl⟩
  simp only [contSs_ap]
  rw [evSs_cons]
  refine Gv.nx (Q1 := fun δ sx => sx = s7 ∧ δ = [.w .dice, .w (.d (encT t)), .w (.d (.tup (t.ns.map D.str))), .w (.d (.tup (t.rs.map D.tup))), .w (.d (.int t.ns.length)), .w (.d (.lst ((badT t).take 12))), .no]) ?_ ?_
  · simp [m1, m2, m5, q1, q2, q3, q4, q5, q6, q7, cut01, badT, nmsD, lim]
    exact Nx.of rfl ⟨rfl, rfl⟩
  rintro _ s8 ⟨rfl, rfl⟩
  simp only [contSs_ap]
  rw [evSs_cons]
  refine Gv.nx (Q1 := fun δ sx => sx = s8 ∧ δ = [.w .dice, .w (.d (encT t)), .w (.d (.tup (t.ns.map D.str))), .w (.d (.tup (t.rs.map D.tup))), .w (.d (.int t.ns.length)), .w (.d (.lst ((badT t).take 17))), .no]) ?_ ?_
  · simp [m1, m2, m5, q1, q2, q3, q4, q5, q6, q7, cut01, badT, nmsD, lim]
    exact Nx.of rfl ⟨rfl, rfl⟩
  rintro _ s9 ⟨rfl, rfl⟩
  have hl : ((badT t).take 17) = badT t := rfl
  rw [hl]
  obtain ⟨x, hx, hm⟩ := getI_nat (badT t) r r0 (by rw [badT_len]; omega)
  have hlen := badT_len t
  generalize badT t = B at *
  simp [hlen, e, hx]
  exact Gv.ok ⟨⟨x, hm, rfl⟩, d'⟩

theorem pure_law0 (c : Int) : Nx (evSs gl (PP e_law) b_law [.no, .w .dice, .no, .no, .no, .no, .no, .no, .no, .no, .no] ⟨some (c, 0), none⟩) fun δ _ => δ.length = 11 := by
  have hd : Dc ⟨some (c, 0), none⟩ := ⟨c, 0, rfl⟩
  generalize (⟨some (c, 0), none⟩ : Sto) = s at hd
  obtain ⟨v1, s1, e1, t, rfl, T, hz, d1⟩ := s_any_table2 s hd 4 4 (by decide) (by decide) (by decide) (by decide)
  have T : TOk t 4 4 := T
  have w1 := T.one
  have w2 := T.wide
  have w3 := T.tall
  unfold b_law
  refine nx_st (Q1 := fun δ s => s = s1 ∧ δ = [.no, .w .dice, .w (.d (encT t)), .no, .no, .no, .no, .no, .no, .no, .no]) ?_ ?_
  · simp [e1]
    exact Nx.of rfl ⟨rfl, rfl⟩
  rintro _ s2 ⟨rfl, rfl⟩
  refine nx_st (Q1 := fun δ s => s = s2 ∧ δ = [.no, .w .dice, .w (.d (encT t)), .w (.d (.tup (t.ns.map D.str))), .w (.d (.tup (t.rs.map D.tup))), .no, .no, .no, .no, .no, .no]) ?_ ?_
  · simp
    exact Nx.of rfl ⟨rfl, rfl⟩
  rintro _ s3 ⟨rfl, rfl⟩
  refine nx_st (Q1 := fun δ s => s = s3 ∧ δ = [.no, .w .dice, .w (.d (encT t)), .w (.d (.tup (t.ns.map D.str))), .w (.d (.tup (t.rs.map D.tup))), .no, .no, .no, .no, .no, .no]) ?_ ?_
  · simp [s_is_table t 4 4 T (by decide) (by decide)]
    exact Nx.of rfl ⟨rfl, rfl⟩
  rintro _ s4 ⟨rfl, rfl⟩
  refine nx_st (Q1 := fun δ s => s = s4 ∧ ∃ g5 g6, δ = [.no, .w .dice, .w (.d (encT t)), .w (.d (.tup (t.ns.map D.str))), .w (.d (.tup (t.rs.map D.tup))), g5, g6, .no, .no, .no, .no]) ?_ ?_
  · simp
    rw [enumD_map]
    refine (for_rel (enc := fun p : List Nat × Nat => D.tup [.int p.2, .str p.1]) (A := Nat) (fun _ _ δ => ∃ g5 g6, δ = [.no, .w .dice, .w (.d (encT t)), .w (.d (.tup (t.ns.map D.str))), .w (.d (.tup (t.rs.map D.tup))), g5, g6, .no, .no, .no, .no]) (fun _ _ => 0) _ 0 _ ⟨_, _, rfl⟩ ?_).mono (fun δ s h => h)
    rintro i x hi hx _ _ ⟨g5, g6, rfl⟩
    refine ⟨_, rfl, ?_⟩
    have hxi : x.2 < t.ns.length ∧ x.1 = nth t.ns x.2 := by
      rw [List.getElem?_zipIdx] at hi
      cases hn : t.ns[i]? with
      | none => rw [hn] at hi; cases hi
      | some n =>
        rw [hn] at hi
        cases hi
        simp only [Nat.zero_add]
        exact ⟨(List.getElem?_eq_some_iff.mp hn).1, (nth_of hn).symm⟩
    obtain ⟨n, k⟩ := x
    obtain ⟨hk, hn⟩ := hxi
    simp only at hk hn
    subst hn
    have ec := s_column_of T s4 hk
    have hdp : depthOk (.tup (t.rs.map fun r => nth r k)) (.tup (t.rs.map fun r => nth r k)) = true := depthOk_l (by
      rw [depth_t]
      have : depths (t.rs.map fun r => nth r k) ≤ 0 := depths_le fun d hd => by
        obtain ⟨r, hr, rfl⟩ := List.mem_map.mp hd
        have hv := T.val r hr _ (nth_mem (show k < r.length by rw [T.row r hr]; exact hk))
        cases hq : nth r k <;> rw [hq] at hv <;> first | (cases hv; done) | exact Nat.le_refl _
      omega)
    simp [ec]
    rw [lc_map (enc := D.tup) (g := fun r => nth r k) (fun r hr => ?_) (by unfold lim; omega)]
    · simp [hdp, eqD_refl]
      exact Nx.of rfl ⟨rfl, _, _, rfl⟩
    · have hg : getI r (k : Int) = some (nth r k) := by rw [getI_n]; exact nth_get (by rw [T.row r hr]; exact hk)
      simp [hg]
  rintro _ s5 ⟨rfl, g5, g6, rfl⟩
  have kr : ∀ (ds : List D) (s : Sto), kRev (.d (.tup ds)) s = .ok (.d (.tup ds.reverse)) s := fun _ _ => rfl
  have TT := trn_ok T
  have t1 := s_turned T (by decide) (by decide) s5
  have t2 := s_turned TT (by decide) (by decide) s5
  rw [trn_trn] at t2
  refine nx_st (Q1 := fun δ s => s = s5 ∧ δ = [.no, .w .dice, .w (.d (encT t)), .w (.d (.tup (t.ns.map D.str))), .w (.d (.tup (t.rs.map D.tup))), g5, g6, .w (.d (encT (trn t))), .no, .no, .no]) ?_ ?_
  · simp [t1]
    exact Nx.of rfl ⟨rfl, rfl⟩
  rintro _ s6 ⟨rfl, rfl⟩
  have dT : ∀ (t : Tb) (T : TOk t 4 4), depth (encT t) ≤ 60 ∧ depth (.tup (t.ns.map D.str)) ≤ 60 ∧ depth (.tup (t.rs.map D.tup)) ≤ 60 := fun t T => by
    have h1 := depths_map (f := D.str) (n := 0) (fun i => by simp) t.ns
    have h2 : depths (t.rs.map D.tup) ≤ 1 := depths_le fun d hd => by
      obtain ⟨r, hr, rfl⟩ := List.mem_map.mp hd
      rw [depth_t]
      have : depths r ≤ 0 := depths_le fun d hd => by
        have hv := T.val r hr d hd
        cases d <;> first | (cases hv; done) | exact Nat.le_refl _
      omega
    simp
    omega
  obtain ⟨y1, y2, y3⟩ := dT t T
  obtain ⟨z1, z2, z3⟩ := dT (trn t) TT
  have hr1 : (t.ns.map D.str).reverse = (trn t).ns.map D.str := by rw [← List.map_reverse]; rfl
  have hr2 : ((t.rs.map D.tup).reverse) = t.rs.reverse.map D.tup := List.map_reverse.symm
  have hr3 : t.rs.reverse.map (fun r => D.tup r.reverse) = (trn t).rs.map D.tup := by
    show _ = ((t.rs.map List.reverse).reverse).map D.tup
    rw [← List.map_reverse, List.map_map]
    rfl
  refine nx_st (Q1 := fun δ s => s = s6 ∧ δ = [.no, .w .dice, .w (.d (encT t)), .w (.d (.tup (t.ns.map D.str))), .w (.d (.tup (t.rs.map D.tup))), g5, g6, .w (.d (encT (trn t))), .no, .no, .no]) ?_ ?_
  · have hlc : ∀ δ : Env, δ.length = 11 → lcGo (lcT gl (PP e_law) [10] false (.k (.bl true)) (.rev (.v 10)) δ) ((t.rs.map D.tup).reverse) [] s6 = .ok ((trn t).rs.map D.tup) s6 := fun δ hδ => by
      rw [hr2, lc_map (enc := D.tup) (g := fun r => D.tup r.reverse) (fun r hr => ?_) (by rw [List.length_reverse]; unfold lim; omega), hr3]
      match δ, hδ with
      | [a, b, c, d, e, f, g, h, i, j, k], _ => simp [kr]
    have hA := depthOk_l (b := .tup ((trn t).ns.map D.str)) z2
    have hB := depthOk_l (b := .tup ((trn t).rs.map D.tup)) z3
    generalize hN : (trn t).ns.map D.str = NN at *
    generalize hR : (trn t).rs.map D.tup = RR at *
    rw [show encT (trn t) = .tup [.tup NN, .tup RR] from by rw [← hN, ← hR]]
    simp [kr, hr1, hlc, hA, hB, eqD_refl]
    exact Nx.of rfl ⟨rfl, rfl⟩
  rintro _ s7 ⟨rfl, rfl⟩
  refine nx_st (Q1 := fun δ s => s = s7 ∧ δ = [.no, .w .dice, .w (.d (encT t)), .w (.d (.tup (t.ns.map D.str))), .w (.d (.tup (t.rs.map D.tup))), g5, g6, .w (.d (encT (trn t))), .no, .no, .no]) ?_ ?_
  · have hA := depthOk_l (b := encT t) y1
    simp only [encT] at t2 hA ⊢
    simp [t2, hA, eqD_refl]
    exact Nx.of rfl ⟨rfl, rfl⟩
  rintro _ s8 ⟨rfl, rfl⟩
  refine nx_st (Q1 := fun δ s => Dc s ∧ ∃ g8 g9, δ = [.no, .w .dice, .w (.d (encT t)), .w (.d (.tup (t.ns.map D.str))), .w (.d (.tup (t.rs.map D.tup))), g5, g6, .w (.d (encT (trn t))), g8, g9, .no]) ?_ ?_
  · simp [show rngOk 0 4 = true from rfl]
    refine (nx_for (fun _ δ s => Dc s ∧ ∃ g8 g9, δ = [.no, .w .dice, .w (.d (encT t)), .w (.d (.tup (t.ns.map D.str))), .w (.d (.tup (t.rs.map D.tup))), g5, g6, .w (.d (encT (trn t))), g8, g9, .no]) _ 0 _ _ ⟨d1, _, _, rfl⟩ ?_).mono (fun δ s h => h)
    rintro i d δ s hi ⟨dd, g8, g9, rfl⟩
    refine ⟨_, rfl, ?_⟩
    obtain ⟨v2, s9, e2, ⟨b, hb, rfl⟩, d2⟩ := s_bad_table s dd T
    have b1 := bad_no T s9 b hb
    have b2 := bad_turned T s9 b hb
    simp [e2, b1, b2, eqD_refl]
    exact Nx.of rfl ⟨d2, _, _, rfl⟩
  rintro _ s9 ⟨d9, g8, g9, rfl⟩
  refine nx_st (Q1 := fun δ s => δ.length = 11) ?_ (fun δ s h => Nx.of rfl h)
  simp
  refine (for_all (fun δ => ∃ g9, δ = [.no, .w .dice, .w (.d (encT t)), .w (.d (.tup (t.ns.map D.str))), .w (.d (.tup (t.rs.map D.tup))), g5, g6, .w (.d (encT (trn t))), g8, g9, .no]) _ _ ⟨_, rfl⟩ ?_).mono (fun δ s ⟨_, g9, h⟩ => by rw [h]; rfl)
  rintro b hb _ ⟨g9, rfl⟩
  refine ⟨_, rfl, ?_⟩
  have y1 := col_bad T s9 b hb hz
  simp [y1, eqD_refl]
  exact Nx.of rfl ⟨rfl, _, rfl⟩
end Hd
end
section
set_option Elab.async false
set_option linter.all false
set_option maxRecDepth 100000
set_option maxHeartbeats 0
namespace Hd
open G
theorem fns_eq : fnsOf gl dfs [] = e_law := by kernel_rfl
theorem pure_law : ∀ c : Int, ∃ δ s, evSs gl (PP (fnsOf gl dfs [])) b_law (env0 N_law.length di) ⟨some (c, 0), none⟩ = .nx δ s ∧ δ.length = N_law.length := fun c => by
  rw [fns_eq]
  obtain ⟨δ, s, e, hl⟩ := pure_law0 c
  exact ⟨δ, s, e, hl⟩
end Hd
end
section
set_option Elab.async false
set_option linter.all false
set_option maxRecDepth 100000
set_option maxHeartbeats 0
namespace Hd
open PySem PySem.Spec PyProof.Rows L2 G
theorem k1 : chkCell d__law_cell = true := by kernel_rfl
theorem k2 : chkRounds d__law_rounds = true := by kernel_rfl
theorem k3 : chkAll kt0 0 dfs = true := by kernel_rfl
theorem k4 : chkLaw (ktAll kt0 0 dfs) d_law b_law di = true := by kernel_rfl
theorem k5 : chkTold d__law_told = true := by kernel_rfl
theorem k6 : chkTerm d__law_term = true := by kernel_rfl
def mkD (x : Str) (i : Nat) : He.DefD := ⟨(x, none), x, x, defArgs (top i), defBody (top i), defScope (top i), [], []⟩
def fnl0 : List (Str × Nat) := [("is_whole", 16), ("is_string", 17), ("is_name", 18), ("is_value", 19), ("is_row", 20), ("is_table", 21), ("need_table", 22), ("place_of", 23), ("column_of", 24), ("backward", 25), ("turned", 26), ("_law_cell", 28), ("_law_drawn", 29), ("_law_roll", 30), ("_law_rounds", 31), ("_law_term", 32), ("_law_told", 33), ("_law_any_value", 34), ("_law_any_row", 35), ("_law_any_names", 36), ("_law_any_table", 37), ("_law_bad_table", 38), ("law", 39)]
def fnl : List (Str × Nat) := fnl0
def fn : List He.DefD := fnl.map fun p => mkD p.1 p.2
def fa0 : List He.Fa := [.glo "is_whole", .glo "is_string", .glo "is_name", .glo "is_value", .glo "is_row", .glo "is_table", .glo "need_table", .glo "place_of", .glo "column_of", .glo "backward", .glo "turned", .glo "_law_cell", .glo "_law_drawn", .glo "_law_roll", .glo "_law_rounds", .glo "_law_term", .glo "_law_told", .glo "_law_any_value", .glo "_law_any_row", .glo "_law_any_names", .glo "_law_any_table", .glo "_law_bad_table", .glo "law", .free "ValueError", .free "all"]
def fa1 : List He.Fa := [.free "bool", .free "enumerate", .free "int", .free "isinstance", .free "len", .free "list", .free "max", .free "min", .free "range", .free "reversed", .free "set", .free "str", .free "sum", .free "tuple", .str "SMALL" "abcdefghijklmnopqrstuvwxyz"]
def fa : List He.Fa := fa0 ++ fa1
abbrev R : PySem.W.OpenRow := PySem.W.OpenLaw.row PySem.Challenge.rw_tablediffs_k01_whole_tables
def tf : List He.Defn := [("law", none)]
def ex : PySem.W.Frag → Bool := exOk tf
abbrev hk : PySem.W.Hook := He.hookX 5 fa fn [] tf ex
def ob (s : PySem.W.SharedT) : He.AlX := He.obsX 5 fa fn [] tf ex (HandSHeadRun.getT s)
theorem ob_eq (s : PySem.W.SharedT) : ob s = hk.obs s.abs := He.obsX_eq (HandSHeadRun.getT_eq s)
def loose0 : List PySem.Str := ["DiffError", "InvalidTable", "InvalidName", "InvalidNumber", "InvalidPairing", "InvalidAlignment", "InvalidWeights", "InvalidPlan", "InvalidSplit", "InvalidVersions", "BookFull", "NothingToUndo", "InvalidText", "SMALL", "is_whole", "is_string", "is_name", "is_value", "is_row", "is_table", "need_table", "place_of", "column_of", "backward", "turned"]
def loose1 : List PySem.Str := ["_law_cell", "_law_drawn", "_law_roll", "_law_rounds", "_law_term", "_law_told", "_law_any_value", "_law_any_row", "_law_any_names", "_law_any_table", "_law_bad_table"]
def loose : List PySem.Str := loose0 ++ loose1
theorem run (w : World) : HandSHeadRun.RunEq R (PySem.W.view R.prog [39]) hk ob 4000 loose w := by
  intro os
  kernel_rfl
section
variable {w : World} {K : PySem.W.Frag} {h : Heap} {mg : Str → Option Value} {base : Heap}
abbrev U (w : World) (K : PySem.W.Frag) (mg : Str → Option Value) (base : Heap) : Wd := ⟨⟨(PySem.Challenge.rw_tablediffs_k01_whole_tables).prog, w, K, exA K, gl, tabT tf K⟩, mg, base⟩
abbrev TB (K : PySem.W.Frag) (mg : Str → Option Value) (base : Heap) : Prop := ∀ p ∈ tf.map (He.cT K), LamX.TabB base mg p.1 p.2
theorem nd_ok (e : ex K = true) : tabsNd tf K = true := by
  have e : exOk tf K = true := e
  unfold exOk at e
  simp only [Bool.and_eq_true] at e
  exact e.2
theorem bd_is_whole (kV doc pm : Value) (an : Option Addr) (cdv ct : Value) (us : List Value) (hl : us.length = 3) : bindArgs (PySem.W.fnOf "is_whole" "is_whole" (defArgs (top 16)) (defBody (top 16)) (defScope (top 16)) .none kV doc pm an cdv ct) ⟨us, []⟩ = pure ((["value", "low", "high"] : List Str).zip us) := match us, hl with | [_, _, _], _ => rfl
theorem do_is_whole (X : K.In h) (G : h.Ns mainGlobals mg) (c : He.SaysD fa fn K) (xo : ex K = true) (tb : TB K mg base) : DfOk (U w K mg base) d_is_whole := by
  obtain ⟨fd, F⟩ := c.def_ 0 (d := mkD "is_whole" 16) rfl
  exact ⟨_, fd, F, He.glo_ok X G (c.fact 0 (f := .glo "is_whole") rfl), F.bindsN bd_is_whole, fun z => by cases z⟩
theorem bd_is_string (kV doc pm : Value) (an : Option Addr) (cdv ct : Value) (us : List Value) (hl : us.length = 3) : bindArgs (PySem.W.fnOf "is_string" "is_string" (defArgs (top 17)) (defBody (top 17)) (defScope (top 17)) .none kV doc pm an cdv ct) ⟨us, []⟩ = pure ((["value", "high", "signs"] : List Str).zip us) := match us, hl with | [_, _, _], _ => rfl
theorem do_is_string (X : K.In h) (G : h.Ns mainGlobals mg) (c : He.SaysD fa fn K) (xo : ex K = true) (tb : TB K mg base) : DfOk (U w K mg base) d_is_string := by
  obtain ⟨fd, F⟩ := c.def_ 1 (d := mkD "is_string" 17) rfl
  exact ⟨_, fd, F, He.glo_ok X G (c.fact 1 (f := .glo "is_string") rfl), F.bindsN bd_is_string, fun z => by cases z⟩
theorem bd_is_name (kV doc pm : Value) (an : Option Addr) (cdv ct : Value) (us : List Value) (hl : us.length = 1) : bindArgs (PySem.W.fnOf "is_name" "is_name" (defArgs (top 18)) (defBody (top 18)) (defScope (top 18)) .none kV doc pm an cdv ct) ⟨us, []⟩ = pure ((["value"] : List Str).zip us) := match us, hl with | [_], _ => rfl
theorem do_is_name (X : K.In h) (G : h.Ns mainGlobals mg) (c : He.SaysD fa fn K) (xo : ex K = true) (tb : TB K mg base) : DfOk (U w K mg base) d_is_name := by
  obtain ⟨fd, F⟩ := c.def_ 2 (d := mkD "is_name" 18) rfl
  exact ⟨_, fd, F, He.glo_ok X G (c.fact 2 (f := .glo "is_name") rfl), F.bindsN bd_is_name, fun z => by cases z⟩
theorem bd_is_value (kV doc pm : Value) (an : Option Addr) (cdv ct : Value) (us : List Value) (hl : us.length = 1) : bindArgs (PySem.W.fnOf "is_value" "is_value" (defArgs (top 19)) (defBody (top 19)) (defScope (top 19)) .none kV doc pm an cdv ct) ⟨us, []⟩ = pure ((["value"] : List Str).zip us) := match us, hl with | [_], _ => rfl
theorem do_is_value (X : K.In h) (G : h.Ns mainGlobals mg) (c : He.SaysD fa fn K) (xo : ex K = true) (tb : TB K mg base) : DfOk (U w K mg base) d_is_value := by
  obtain ⟨fd, F⟩ := c.def_ 3 (d := mkD "is_value" 19) rfl
  exact ⟨_, fd, F, He.glo_ok X G (c.fact 3 (f := .glo "is_value") rfl), F.bindsN bd_is_value, fun z => by cases z⟩
theorem bd_is_row (kV doc pm : Value) (an : Option Addr) (cdv ct : Value) (us : List Value) (hl : us.length = 2) : bindArgs (PySem.W.fnOf "is_row" "is_row" (defArgs (top 20)) (defBody (top 20)) (defScope (top 20)) .none kV doc pm an cdv ct) ⟨us, []⟩ = pure ((["value", "width"] : List Str).zip us) := match us, hl with | [_, _], _ => rfl
theorem do_is_row (X : K.In h) (G : h.Ns mainGlobals mg) (c : He.SaysD fa fn K) (xo : ex K = true) (tb : TB K mg base) : DfOk (U w K mg base) d_is_row := by
  obtain ⟨fd, F⟩ := c.def_ 4 (d := mkD "is_row" 20) rfl
  exact ⟨_, fd, F, He.glo_ok X G (c.fact 4 (f := .glo "is_row") rfl), F.bindsN bd_is_row, fun z => by cases z⟩
theorem bd_is_table (kV doc pm : Value) (an : Option Addr) (cdv ct : Value) (us : List Value) (hl : us.length = 1) : bindArgs (PySem.W.fnOf "is_table" "is_table" (defArgs (top 21)) (defBody (top 21)) (defScope (top 21)) .none kV doc pm an cdv ct) ⟨us, []⟩ = pure ((["value"] : List Str).zip us) := match us, hl with | [_], _ => rfl
theorem do_is_table (X : K.In h) (G : h.Ns mainGlobals mg) (c : He.SaysD fa fn K) (xo : ex K = true) (tb : TB K mg base) : DfOk (U w K mg base) d_is_table := by
  obtain ⟨fd, F⟩ := c.def_ 5 (d := mkD "is_table" 21) rfl
  exact ⟨_, fd, F, He.glo_ok X G (c.fact 5 (f := .glo "is_table") rfl), F.bindsN bd_is_table, fun z => by cases z⟩
theorem bd_need_table (kV doc pm : Value) (an : Option Addr) (cdv ct : Value) (us : List Value) (hl : us.length = 1) : bindArgs (PySem.W.fnOf "need_table" "need_table" (defArgs (top 22)) (defBody (top 22)) (defScope (top 22)) .none kV doc pm an cdv ct) ⟨us, []⟩ = pure ((["table"] : List Str).zip us) := match us, hl with | [_], _ => rfl
theorem do_need_table (X : K.In h) (G : h.Ns mainGlobals mg) (c : He.SaysD fa fn K) (xo : ex K = true) (tb : TB K mg base) : DfOk (U w K mg base) d_need_table := by
  obtain ⟨fd, F⟩ := c.def_ 6 (d := mkD "need_table" 22) rfl
  exact ⟨_, fd, F, He.glo_ok X G (c.fact 6 (f := .glo "need_table") rfl), F.bindsN bd_need_table, fun z => by cases z⟩
theorem bd_place_of (kV doc pm : Value) (an : Option Addr) (cdv ct : Value) (us : List Value) (hl : us.length = 2) : bindArgs (PySem.W.fnOf "place_of" "place_of" (defArgs (top 23)) (defBody (top 23)) (defScope (top 23)) .none kV doc pm an cdv ct) ⟨us, []⟩ = pure ((["table", "name"] : List Str).zip us) := match us, hl with | [_, _], _ => rfl
theorem do_place_of (X : K.In h) (G : h.Ns mainGlobals mg) (c : He.SaysD fa fn K) (xo : ex K = true) (tb : TB K mg base) : DfOk (U w K mg base) d_place_of := by
  obtain ⟨fd, F⟩ := c.def_ 7 (d := mkD "place_of" 23) rfl
  exact ⟨_, fd, F, He.glo_ok X G (c.fact 7 (f := .glo "place_of") rfl), F.bindsN bd_place_of, fun z => by cases z⟩
theorem bd_column_of (kV doc pm : Value) (an : Option Addr) (cdv ct : Value) (us : List Value) (hl : us.length = 2) : bindArgs (PySem.W.fnOf "column_of" "column_of" (defArgs (top 24)) (defBody (top 24)) (defScope (top 24)) .none kV doc pm an cdv ct) ⟨us, []⟩ = pure ((["table", "name"] : List Str).zip us) := match us, hl with | [_, _], _ => rfl
theorem do_column_of (X : K.In h) (G : h.Ns mainGlobals mg) (c : He.SaysD fa fn K) (xo : ex K = true) (tb : TB K mg base) : DfOk (U w K mg base) d_column_of := by
  obtain ⟨fd, F⟩ := c.def_ 8 (d := mkD "column_of" 24) rfl
  exact ⟨_, fd, F, He.glo_ok X G (c.fact 8 (f := .glo "column_of") rfl), F.bindsN bd_column_of, fun z => by cases z⟩
theorem bd_backward (kV doc pm : Value) (an : Option Addr) (cdv ct : Value) (us : List Value) (hl : us.length = 1) : bindArgs (PySem.W.fnOf "backward" "backward" (defArgs (top 25)) (defBody (top 25)) (defScope (top 25)) .none kV doc pm an cdv ct) ⟨us, []⟩ = pure ((["row"] : List Str).zip us) := match us, hl with | [_], _ => rfl
theorem do_backward (X : K.In h) (G : h.Ns mainGlobals mg) (c : He.SaysD fa fn K) (xo : ex K = true) (tb : TB K mg base) : DfOk (U w K mg base) d_backward := by
  obtain ⟨fd, F⟩ := c.def_ 9 (d := mkD "backward" 25) rfl
  exact ⟨_, fd, F, He.glo_ok X G (c.fact 9 (f := .glo "backward") rfl), F.bindsN bd_backward, fun z => by cases z⟩
theorem bd_turned (kV doc pm : Value) (an : Option Addr) (cdv ct : Value) (us : List Value) (hl : us.length = 1) : bindArgs (PySem.W.fnOf "turned" "turned" (defArgs (top 26)) (defBody (top 26)) (defScope (top 26)) .none kV doc pm an cdv ct) ⟨us, []⟩ = pure ((["table"] : List Str).zip us) := match us, hl with | [_], _ => rfl
theorem do_turned (X : K.In h) (G : h.Ns mainGlobals mg) (c : He.SaysD fa fn K) (xo : ex K = true) (tb : TB K mg base) : DfOk (U w K mg base) d_turned := by
  obtain ⟨fd, F⟩ := c.def_ 10 (d := mkD "turned" 26) rfl
  exact ⟨_, fd, F, He.glo_ok X G (c.fact 10 (f := .glo "turned") rfl), F.bindsN bd_turned, fun z => by cases z⟩
theorem bd__law_cell (kV doc pm : Value) (an : Option Addr) (cdv ct : Value) (us : List Value) (hl : us.length = 2) : bindArgs (PySem.W.fnOf "_law_cell" "_law_cell" (defArgs (top 28)) (defBody (top 28)) (defScope (top 28)) .none kV doc pm an cdv ct) ⟨us, []⟩ = pure ((["_law_script", "_law_k"] : List Str).zip us) := match us, hl with | [_, _], _ => rfl
theorem do__law_cell (X : K.In h) (G : h.Ns mainGlobals mg) (c : He.SaysD fa fn K) (xo : ex K = true) (tb : TB K mg base) : DfOk (U w K mg base) d__law_cell := by
  obtain ⟨fd, F⟩ := c.def_ 11 (d := mkD "_law_cell" 28) rfl
  exact ⟨_, fd, F, He.glo_ok X G (c.fact 11 (f := .glo "_law_cell") rfl), F.bindsN bd__law_cell, fun z => by cases z⟩
theorem bd__law_drawn (kV doc pm : Value) (an : Option Addr) (cdv ct : Value) (us : List Value) (hl : us.length = 2) : bindArgs (PySem.W.fnOf "_law_drawn" "_law_drawn" (defArgs (top 29)) (defBody (top 29)) (defScope (top 29)) .none kV doc pm an cdv ct) ⟨us, []⟩ = pure ((["_law_cell_here", "_law_k"] : List Str).zip us) := match us, hl with | [_, _], _ => rfl
theorem do__law_drawn (X : K.In h) (G : h.Ns mainGlobals mg) (c : He.SaysD fa fn K) (xo : ex K = true) (tb : TB K mg base) : DfOk (U w K mg base) d__law_drawn := by
  obtain ⟨fd, F⟩ := c.def_ 12 (d := mkD "_law_drawn" 29) rfl
  exact ⟨_, fd, F, He.glo_ok X G (c.fact 12 (f := .glo "_law_drawn") rfl), F.bindsN bd__law_drawn, fun z => by cases z⟩
theorem bd__law_roll (kV doc pm : Value) (an : Option Addr) (cdv ct : Value) (us : List Value) (hl : us.length = 2) : bindArgs (PySem.W.fnOf "_law_roll" "_law_roll" (defArgs (top 30)) (defBody (top 30)) (defScope (top 30)) .none kV doc pm an cdv ct) ⟨us, []⟩ = pure ((["_law_dice", "_law_many"] : List Str).zip us) := match us, hl with | [_, _], _ => rfl
theorem do__law_roll (X : K.In h) (G : h.Ns mainGlobals mg) (c : He.SaysD fa fn K) (xo : ex K = true) (tb : TB K mg base) : DfOk (U w K mg base) d__law_roll := by
  obtain ⟨fd, F⟩ := c.def_ 13 (d := mkD "_law_roll" 30) rfl
  exact ⟨_, fd, F, He.glo_ok X G (c.fact 13 (f := .glo "_law_roll") rfl), F.bindsN bd__law_roll, fun z => by cases z⟩
theorem bd__law_rounds (kV doc pm : Value) (an : Option Addr) (cdv ct : Value) (us : List Value) (hl : us.length = 2) : bindArgs (PySem.W.fnOf "_law_rounds" "_law_rounds" (defArgs (top 31)) (defBody (top 31)) (defScope (top 31)) .none kV doc pm an cdv ct) ⟨us, []⟩ = pure ((["_law_script", "_law_most"] : List Str).zip us) := match us, hl with | [_, _], _ => rfl
theorem do__law_rounds (X : K.In h) (G : h.Ns mainGlobals mg) (c : He.SaysD fa fn K) (xo : ex K = true) (tb : TB K mg base) : DfOk (U w K mg base) d__law_rounds := by
  obtain ⟨fd, F⟩ := c.def_ 14 (d := mkD "_law_rounds" 31) rfl
  exact ⟨_, fd, F, He.glo_ok X G (c.fact 14 (f := .glo "_law_rounds") rfl), F.bindsN bd__law_rounds, fun z => by cases z⟩
theorem bd__law_term (kV doc pm : Value) (an : Option Addr) (cdv ct : Value) (us : List Value) (hl : us.length = 1) : bindArgs (PySem.W.fnOf "_law_term" "_law_term" (defArgs (top 32)) (defBody (top 32)) (defScope (top 32)) .none kV doc pm an cdv ct) ⟨us, []⟩ = pure ((["_law_e"] : List Str).zip us) := match us, hl with | [_], _ => rfl
theorem do__law_term (X : K.In h) (G : h.Ns mainGlobals mg) (c : He.SaysD fa fn K) (xo : ex K = true) (tb : TB K mg base) : DfOk (U w K mg base) d__law_term := by
  obtain ⟨fd, F⟩ := c.def_ 15 (d := mkD "_law_term" 32) rfl
  exact ⟨_, fd, F, He.glo_ok X G (c.fact 15 (f := .glo "_law_term") rfl), F.bindsN bd__law_term, fun z => by cases z⟩
theorem bd__law_told (kV doc pm : Value) (an : Option Addr) (cdv ct : Value) (us : List Value) (hl : us.length = 1) : bindArgs (PySem.W.fnOf "_law_told" "_law_told" (defArgs (top 33)) (defBody (top 33)) (defScope (top 33)) .none kV doc pm an cdv ct) ⟨us, []⟩ = pure ((["_law_deed"] : List Str).zip us) := match us, hl with | [_], _ => rfl
theorem do__law_told (X : K.In h) (G : h.Ns mainGlobals mg) (c : He.SaysD fa fn K) (xo : ex K = true) (tb : TB K mg base) : DfOk (U w K mg base) d__law_told := by
  obtain ⟨fd, F⟩ := c.def_ 16 (d := mkD "_law_told" 33) rfl
  exact ⟨_, fd, F, He.glo_ok X G (c.fact 16 (f := .glo "_law_told") rfl), F.bindsN bd__law_told, fun z => by cases z⟩
theorem bd__law_any_value (kV doc pm : Value) (an : Option Addr) (cdv ct : Value) (us : List Value) (hl : us.length = 1) : bindArgs (PySem.W.fnOf "_law_any_value" "_law_any_value" (defArgs (top 34)) (defBody (top 34)) (defScope (top 34)) .none kV doc pm an cdv ct) ⟨us, []⟩ = pure ((["_law_dice"] : List Str).zip us) := match us, hl with | [_], _ => rfl
theorem do__law_any_value (X : K.In h) (G : h.Ns mainGlobals mg) (c : He.SaysD fa fn K) (xo : ex K = true) (tb : TB K mg base) : DfOk (U w K mg base) d__law_any_value := by
  obtain ⟨fd, F⟩ := c.def_ 17 (d := mkD "_law_any_value" 34) rfl
  exact ⟨_, fd, F, He.glo_ok X G (c.fact 17 (f := .glo "_law_any_value") rfl), F.bindsN bd__law_any_value, fun z => by cases z⟩
theorem bd__law_any_row (kV doc pm : Value) (an : Option Addr) (cdv ct : Value) (us : List Value) (hl : us.length = 2) : bindArgs (PySem.W.fnOf "_law_any_row" "_law_any_row" (defArgs (top 35)) (defBody (top 35)) (defScope (top 35)) .none kV doc pm an cdv ct) ⟨us, []⟩ = pure ((["_law_dice", "_law_width"] : List Str).zip us) := match us, hl with | [_, _], _ => rfl
theorem do__law_any_row (X : K.In h) (G : h.Ns mainGlobals mg) (c : He.SaysD fa fn K) (xo : ex K = true) (tb : TB K mg base) : DfOk (U w K mg base) d__law_any_row := by
  obtain ⟨fd, F⟩ := c.def_ 18 (d := mkD "_law_any_row" 35) rfl
  exact ⟨_, fd, F, He.glo_ok X G (c.fact 18 (f := .glo "_law_any_row") rfl), F.bindsN bd__law_any_row, fun z => by cases z⟩
theorem bd__law_any_names (kV doc pm : Value) (an : Option Addr) (cdv ct : Value) (us : List Value) (hl : us.length = 2) : bindArgs (PySem.W.fnOf "_law_any_names" "_law_any_names" (defArgs (top 36)) (defBody (top 36)) (defScope (top 36)) .none kV doc pm an cdv ct) ⟨us, []⟩ = pure ((["_law_dice", "_law_width"] : List Str).zip us) := match us, hl with | [_, _], _ => rfl
theorem do__law_any_names (X : K.In h) (G : h.Ns mainGlobals mg) (c : He.SaysD fa fn K) (xo : ex K = true) (tb : TB K mg base) : DfOk (U w K mg base) d__law_any_names := by
  obtain ⟨fd, F⟩ := c.def_ 19 (d := mkD "_law_any_names" 36) rfl
  exact ⟨_, fd, F, He.glo_ok X G (c.fact 19 (f := .glo "_law_any_names") rfl), F.bindsN bd__law_any_names, fun z => by cases z⟩
theorem bd__law_any_table (kV doc pm : Value) (an : Option Addr) (cdv ct : Value) (us : List Value) (hl : us.length = 3) : bindArgs (PySem.W.fnOf "_law_any_table" "_law_any_table" (defArgs (top 37)) (defBody (top 37)) (defScope (top 37)) .none kV doc pm an cdv ct) ⟨us, []⟩ = pure ((["_law_dice", "_law_wide", "_law_tall"] : List Str).zip us) := match us, hl with | [_, _, _], _ => rfl
theorem do__law_any_table (X : K.In h) (G : h.Ns mainGlobals mg) (c : He.SaysD fa fn K) (xo : ex K = true) (tb : TB K mg base) : DfOk (U w K mg base) d__law_any_table := by
  obtain ⟨fd, F⟩ := c.def_ 20 (d := mkD "_law_any_table" 37) rfl
  exact ⟨_, fd, F, He.glo_ok X G (c.fact 20 (f := .glo "_law_any_table") rfl), F.bindsN bd__law_any_table, fun z => by cases z⟩
theorem bd__law_bad_table (kV doc pm : Value) (an : Option Addr) (cdv ct : Value) (us : List Value) (hl : us.length = 2) : bindArgs (PySem.W.fnOf "_law_bad_table" "_law_bad_table" (defArgs (top 38)) (defBody (top 38)) (defScope (top 38)) .none kV doc pm an cdv ct) ⟨us, []⟩ = pure ((["_law_dice", "_law_table"] : List Str).zip us) := match us, hl with | [_, _], _ => rfl
theorem do__law_bad_table (X : K.In h) (G : h.Ns mainGlobals mg) (c : He.SaysD fa fn K) (xo : ex K = true) (tb : TB K mg base) : DfOk (U w K mg base) d__law_bad_table := by
  obtain ⟨fd, F⟩ := c.def_ 21 (d := mkD "_law_bad_table" 38) rfl
  exact ⟨_, fd, F, He.glo_ok X G (c.fact 21 (f := .glo "_law_bad_table") rfl), F.bindsN bd__law_bad_table, fun z => by cases z⟩
theorem bd_law (kV doc pm : Value) (an : Option Addr) (cdv ct : Value) (us : List Value) (hl : us.length = 1) : bindArgs (PySem.W.fnOf "law" "law" (defArgs (top 39)) (defBody (top 39)) (defScope (top 39)) .none kV doc pm an cdv ct) ⟨us, []⟩ = pure ((["_law_script"] : List Str).zip us) := match us, hl with | [_], _ => rfl
theorem lam_law (X : K.In h) (G : h.Ns mainGlobals mg) (c : He.SaysD fa fn K) (xo : ex K = true) (tb : TB K mg base) {f : Addr} {fd : FuncData} (hf : f = He.fAd K ("law", none)) (F : FunD K "law" "law" (defArgs (top 39)) (defBody (top 39)) (defScope (top 39)) [] [] f fd) : d_law.maker = true → ∀ c, fd.code = .ref c → ∃ P, LamX.TabB base mg c P ∧ (P, d_law.x ++ ".<locals>." ++ "<lambda>") ∈ (U w K mg base).M.T ∧ ∀ p ∈ (U w K mg base).M.T, p.1 = P → p.2 = d_law.x ++ ".<locals>." ++ "<lambda>" := by
  subst hf
  exact fun _ => by
    obtain ⟨_, _, _, _, _, _, _, _, _, _, _, lk, _⟩ := F.ex
    exact lam_of (U := U w K mg base) rfl tb (nd_ok xo) (x := "law") (by decide +kernel) lk
theorem all_d (X : K.In h) (G : h.Ns mainGlobals mg) (c : He.SaysD fa fn K) (xo : ex K = true) (tb : TB K mg base) : AllD (U w K mg base) dfs := ⟨do_is_whole X G c xo tb, do_is_string X G c xo tb, do_is_name X G c xo tb, do_is_value X G c xo tb, do_is_row X G c xo tb, do_is_table X G c xo tb, do_need_table X G c xo tb, do_place_of X G c xo tb, do_column_of X G c xo tb, do_backward X G c xo tb, do_turned X G c xo tb, do__law_drawn X G c xo tb, do__law_roll X G c xo tb, do__law_any_value X G c xo tb, do__law_any_row X G c xo tb, do__law_any_names X G c xo tb, do__law_any_table X G c xo tb, do__law_bad_table X G c xo tb, trivial⟩
theorem fre_ok (X : K.In h) (G : h.Ns mainGlobals mg) (c : He.SaysD fa fn K) : ∀ x ∈ frl, mg x = none := by
  intro x hx
  simp only [frl, List.mem_cons, List.not_mem_nil, or_false] at hx
  rcases hx with rfl | rfl | rfl | rfl | rfl | rfl | rfl | rfl | rfl | rfl | rfl | rfl | rfl | rfl | rfl | rfl
  · exact He.free_ok X G (c.fact 23 (f := .free "ValueError") rfl)
  · exact He.free_ok X G (c.fact 24 (f := .free "all") rfl)
  · exact He.free_ok X G (c.fact 25 (f := .free "bool") rfl)
  · exact He.free_ok X G (c.fact 26 (f := .free "enumerate") rfl)
  · exact He.free_ok X G (c.fact 27 (f := .free "int") rfl)
  · exact He.free_ok X G (c.fact 28 (f := .free "isinstance") rfl)
  · exact He.free_ok X G (c.fact 29 (f := .free "len") rfl)
  · exact He.free_ok X G (c.fact 30 (f := .free "list") rfl)
  · exact He.free_ok X G (c.fact 31 (f := .free "max") rfl)
  · exact He.free_ok X G (c.fact 32 (f := .free "min") rfl)
  · exact He.free_ok X G (c.fact 33 (f := .free "range") rfl)
  · exact He.free_ok X G (c.fact 34 (f := .free "reversed") rfl)
  · exact He.free_ok X G (c.fact 35 (f := .free "set") rfl)
  · exact He.free_ok X G (c.fact 36 (f := .free "str") rfl)
  · exact He.free_ok X G (c.fact 37 (f := .free "sum") rfl)
  · exact He.free_ok X G (c.fact 38 (f := .free "tuple") rfl)
theorem kt_ok (X : K.In h) (G : h.Ns mainGlobals mg) (c : He.SaysD fa fn K) (xo : ex K = true) (tb : TB K mg base) : KtOk (U w K mg base) (PP []) 2 kt0 where
  fns := fun x i h => by cases h
  gls := fun x i h => by
    unfold kt0 gll at h
    rw [List.lookup_cons] at h
    split at h
    · rename_i e
      cases h
      rw [eq_of_beq e]
      obtain ⟨t, ht⟩ := He.str_ok X G (c.fact 39 (f := .str "SMALL" "abcdefghijklmnopqrstuvwxyz") rfl)
      exact ⟨_, .str "abcdefghijklmnopqrstuvwxyz", ht, ⟨t, rfl⟩, fun F => by show V.str _ = V.str _; exact congrArg V.str (by decide +kernel)⟩
    cases h
  exs := fun x i h => eok_of (K := K) (mg := mg) rfl rfl rfl X G xo h
  fre := fun x h => fre_ok X G c x h
  tld := fun z => told_of (K := K) (mg := mg) rfl rfl rfl X G xo (do__law_told X G c xo tb) k5 (do__law_term X G c xo tb) k6 (fun x hx => fre_ok X G c x (by simp only [List.mem_cons, List.not_mem_nil, or_false] at hx; rcases hx with rfl | rfl | rfl | rfl <;> decide +kernel))
theorem law_fn (X : K.In h) (G : h.Ns mainGlobals mg) (c : He.SaysD fa fn K) (xo : ex K = true) (tb : TB K mg base) {f : Addr} {fd : FuncData} (hf : f = He.fAd K ("law", none)) (F : FunD K "law" "law" (defArgs (top 39)) (defBody (top 39)) (defScope (top 39)) [] [] f fd) : FnOk (PySem.Challenge.rw_tablediffs_k01_whole_tables).prog w K mg base (L2N.CX (PySem.Challenge.rw_tablediffs_k01_whole_tables).prog w) (2 + levs dfs + 3) f fd ["_law_script"] (spLaw (U w K mg base).M) :=
  whole (U := U w K mg base) (dl := d_law) (kt_ok X G c xo tb) (all_d X G c xo tb) (do__law_cell X G c xo tb) (do__law_rounds X G c xo tb) rfl rfl (fun x hx => fre_ok X G c x (by simp only [List.mem_cons, List.not_mem_nil, or_false] at hx; rcases hx with rfl | rfl | rfl | rfl <;> decide +kernel)) F (lam_law X G c xo tb hf F) k1 k2 k3 k4 pure_law
end
end Hd
open PySem PySem.W PySem.Calls PyProof.Rows
theorem PySem.Challenge.cw_tablediffs_k01_whole_tables_holds : PySem.Challenge.rw_tablediffs_k01_whole_tables.Holds := by
  w_on; o_law
  refine HandSHeadRun.head_any (r := OpenLaw.row PySem.Challenge.rw_tablediffs_k01_whole_tables) (q := view (OpenLaw.row PySem.Challenge.rw_tablediffs_k01_whole_tables).prog [39]) (H := Hd.hk) (ob := Hd.ob) (M := 4000) (loose := Hd.loose) (d := HandSHeadRun.topDef (OpenLaw.row PySem.Challenge.rw_tablediffs_k01_whole_tables).prog 39) (kwd := []) Hd.ob_eq
    (by kernel_rfl) (fun s => by kernel_rfl) Hd.run (by kernel_rfl) (by kernel_rfl) (by kernel_rfl) (by rfl) (by first | assumption | decide +kernel) (by decide +kernel) ⟨rfl, rfl, rfl, rfl, rfl, by decide +kernel⟩ ?hw ?hc
  case hw => w_witness2
  case hc =>
    refine LamX.walk_ofTsE (l := PySem.Challenge.rw_tablediffs_k01_whole_tables) (n := 63) (k := 2 + G.levs Hd.dfs + 3) (x := "_law_script") (CX := fun w => L2N.CX (PySem.Challenge.rw_tablediffs_k01_whole_tables).prog w) rfl (by decide) (by kernel_rfl) ⟨rfl, by decide +kernel, by decide +kernel⟩ ?F (fun _ _ _ _ _ h => G.cx_no h)
    intro w mg fa h Y Gm hmg0
    obtain ⟨K, KX, sx⟩ := Y
    have c := sx.t.d
    have hmg : mg ("law" : PySem.Str) = some (.ref fa) := by
      have e : (HandSHeadRun.topDef (OpenLaw.row PySem.Challenge.rw_tablediffs_k01_whole_tables).prog 39).name = ("law" : PySem.Str) := by kernel_rfl
      rw [← e]
      exact hmg0
    obtain ⟨fd, F⟩ := c.def_ 22 (d := Hd.mkD "law" 39) rfl
    have e := hmg.symm.trans (He.glo_ok KX Gm (c.fact 22 (f := .glo "law") rfl))
    cases e
    have mm : ∀ p ∈ Hd.tf.map (He.cT K), ∃ q ∈ Hd.tf, p = He.cT K q := fun p hp => by
      obtain ⟨q, hq, e⟩ := List.mem_map.mp hp
      exact ⟨q, hq, e.symm⟩
    exact ⟨K, KX, fd, Hd.tf.map (He.cT K), G.spLaw ⟨(PySem.Challenge.rw_tablediffs_k01_whole_tables).prog, w, K, G.exA K, Hd.gl, G.tabT Hd.tf K⟩, (fun p hp => by obtain ⟨q, hq, rfl⟩ := mm p hp; exact sx.empty q hq), (fun p hp => by obtain ⟨q, hq, rfl⟩ := mm p hp; exact sx.out q hq), (fun p hp => by obtain ⟨q, hq, rfl⟩ := mm p hp; exact PySem.W.codeHd_of_K KX (sx.hd q hq)),
      fun s u => L2.FunD.bindsA (ps := ["_law_script"]) F Hd.bd_law s [u] rfl, fun H a ns hn _ hH hS => ⟨a, ns, rfl, hS, hn, G.tabs_of hH, fun _ => rfl⟩, fun base _ _ tb => Hd.law_fn KX Gm c sx.more tb rfl F⟩
end

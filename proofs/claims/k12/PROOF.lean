import PyProof.Rows.All
import Wide.All
import OpenK.AllK
import Wide.FinOn
import HandS.ForMost
import HandS.ForExc
import KE.SortData
import PyProof.ReprRoads
import HandS.Wide
import HandS.TupAny
import HandS.Deep
import HandS.Text
import PyProof.P3In
import HandS.SortInts
import PyProof.ListRange
import KE.DataMinMax
import HandS.Small
import HandS.Iter
import HandS.Zip
import KE.GoesEnum
import HandS.ExcOwn
import HandS.WordsExc
import HandS.Flow
import HandS.Star
import HandS.Records
import HandS.Ends
import HandS.HeadEnd
import HandS.Defaults
import HandS.Head2
import HandS.IsInst
import HandS.Strs
import HandS.SetFor
import PyProof.Rows.SetFrom
import HandS.DictComp
import HandS.EndBits
import HandS.HeadHook2
import HandS.HeadHook4
import PySem.Challenge.RW_soonerornot_k12_whole_placings_of_one_or
set_option Elab.async false
set_option linter.all false
set_option maxRecDepth 100000
/-! Ev1: a small language of resolved Python bodies (E, S), values, stores, and what a body does: a total function. -/
namespace Ev
open PySem PySem.Spec PyProof.Rows L2

abbrev D := PyData
/-- a value: plain data, or a place of the store -/
inductive Val where
  | d (x : D)
  | ref (i : Nat)
/-- what stands at a place: a list, a dict (keys: ints and texts), a dict (any keys), an instance, nothing any more -/
inductive Cell where
  | lst (xs : List Val)
  | dK (kvs : List (Key × Val))
  | dN (kvs : List (D × Val))
  | ins (c : Nat) (fs : List (Str × Val))
  | scr (xs : List D)
  | dead
def Cell.on : Cell → Bool
  | .dead => false
  | .scr _ => false
  | _ => true
abbrev Sto := List Cell
abbrev Slots := List (Option Val)
inductive R (α : Type) where
  | ok (a : α) (st : Sto)
  | ex (c : Nat) (fs : List (Str × Val)) (st : Sto)
  | no
def R.bind {α β : Type} (r : R α) (f : α → Sto → R β) : R β :=
  match r with
  | .ok a st => f a st
  | .ex c fs st => .ex c fs st
  | .no => .no
/-- nothing may be raised here -/
def R.calm {α : Type} (r : R α) : R α :=
  match r with
  | .ex _ _ _ => .no
  | r => r
def R.ofO {α : Type} (o : Option α) (st : Sto) : R α :=
  match o with
  | some a => .ok a st
  | none => .no
def R.ofO2 {α : Type} (o : Option (α × Sto)) : R α :=
  match o with
  | some (a, st) => .ok a st
  | none => .no

inductive Bop where | add | sub | mul | fdiv | mod | pow | shl | shr | band | bor
  deriving DecidableEq
inductive Cop where | eq | ne | lt | le | gt | ge | inn | nin
  deriving DecidableEq
inductive Bi where | len | abs | int | str | max2 | min2 | maxL | minL | tuple | list | sorted | any | all | sum | repr
  deriving DecidableEq
inductive Mt where | append | pop0 | pop1 | extend | index | insert | join
  deriving DecidableEq
inductive Ty where | int | bool | str | tuple | list | dict
  deriving DecidableEq

/-- a target: a slot, a tuple of targets -/
inductive Tg where
  | name (i : Nat)
  | nil
  | cons (a : Tg) (b : Tg)
mutual
inductive E where
  | con (c : D)
  | loc (i : Nat)
  | glo (i : Nat)
  | tup (es : Es)
  | lst (r : Bool) (es : Es)
  | bin (r : Bool) (o : Bop) (a b : E)
  | neg (a : E)
  | not (a : E)
  | cmp (o : Cop) (a b : E)
  | cmp2 (o p : Cop) (a b c : E)
  | and (a b : E)
  | or (a b : E)
  | ite (c a b : E)
  | isN (a : E)
  | isNN (a : E)
  | call (f : Nat) (es : Es)
  | bi (r : Bool) (b : Bi) (es : Es)
  | mt (r : Bool) (m : Mt) (o : E) (es : Es)
  | idx (a b : E)
  | slc (r : Bool) (a : E) (lo hi : Eo)
  | rev (r : Bool) (a : E)
  | lrng (r : Bool) (it : I)
  | lc (r : Bool) (x : E) (own : List Nat) (g : Tg) (it : I) (c : Eo)
  | lc2 (r : Bool) (x : E) (own own1 : List Nat) (g : Tg) (it : I) (g1 : Tg) (it1 : I) (c : Eo)
  | dct (ks : List Key) (es : Es)
  | dc (k v : E) (own : List Nat) (g : Tg) (it : I) (c : Eo)
  | sset (r : Bool) (a : E)
  | isi (a : E) (ts : List Ty)
  | fld (o : E) (f : Str)
  | gidx (i : Nat) (a : E)
inductive Eo where
  | none
  | some (e : E)
inductive Es where
  | nil
  | cons (e : E) (es : Es)
  | star (e : E) (es : Es)
inductive I where
  | ex (e : E)
  | rng1 (a : E)
  | rng2 (a b : E)
  | enm (e : E)
  | zip (s : Bool) (a b : E)
end
mutual
inductive S where
  | expr (e : E)
  | set (i : Nat) (e : E)
  | unp (g : Tg) (e : E)
  | par (is : List Nat) (es : Es)
  | sub (o i e : E)
  | aug (i : Nat) (o : Bop) (e : E)
  | ite (c : E) (a b : Ss)
  | loop (g : Tg) (it : I) (b : Ss)
  | whl (c : E) (b : Ss)
  | ret (e : E)
  | ret0
  | pass
  | brk
  | cnt
  | frz (i : Nat)
inductive Ss where
  | nil
  | cons (s : S) (ss : Ss)
end
/-- a def: how many parameters, how many slots, its body, whether it is run over a store of its own -/
structure Def where
  np : Nat
  ns : Nat
  body : Ss
  pure : Bool

/-! ### values -/
def Val.dat : Val → Option D
  | .d x => some x
  | .ref _ => none
def dats : List Val → Option (List D)
  | [] => some []
  | .d x :: r => (dats r).map (x :: ·)
  | .ref _ :: _ => none
def cellAt (st : Sto) (i : Nat) : Option Cell := st[i]?
def lsOf (v : Val) (st : Sto) : Option (List Val) :=
  match v with
  | .d (.list xs) => some (xs.map .d)
  | .ref i => match st[i]? with
    | some (.lst xs) => some xs
    | _ => none
  | _ => none
def seqOf (v : Val) (st : Sto) : Option (List Val) :=
  match v with
  | .d (.tuple xs) => some (xs.map .d)
  | v => lsOf v st
/-- made plain data for good: the places within are dead from here on -/
def frzAll (f : Val → Sto → Option (D × Sto)) : List Val → Sto → Option (List D × Sto)
  | [], st => some ([], st)
  | x :: xs, st => match f x st with
    | some (d, st1) => match frzAll f xs st1 with
      | some (ds, st2) => some (d :: ds, st2)
      | none => none
    | none => none
def frz : Nat → Val → Sto → Option (D × Sto)
  | _, .d x, st => some (x, st)
  | 0, .ref _, _ => none
  | n + 1, .ref i, st => match st[i]? with
    | some (.lst xs) => match frzAll (frz n) xs (st.set i .dead) with
      | some (ds, st1) => some (.list ds, st1)
      | none => none
    | _ => none
/-- a new list: plain data, or a place -/
def mkL (r : Bool) (xs : List Val) (st : Sto) : R Val :=
  if xs.length ≤ sizeLine then
    if r then .ok (.ref st.length) (st ++ [.lst xs]) else
    match frzAll (frz 8) xs st with
    | some (ds, st1) => .ok (.d (.list ds)) st1
    | none => .no
  else .no
def mkT (xs : List Val) (st : Sto) : R Val :=
  if xs.length ≤ sizeLine then
    match frzAll (frz 8) xs st with
    | some (ds, st1) => .ok (.d (.tuple ds)) st1
    | none => .no
  else .no
/-- the data that a value is: a list's items -/
def dvAll (f : Val → Option D) : List Val → Option (List D)
  | [] => some []
  | x :: xs => match f x, dvAll f xs with
    | some d, some ds => some (d :: ds)
    | _, _ => none
def dv : Nat → Val → Sto → Option D
  | _, .d x, _ => some x
  | 0, .ref _, _ => none
  | n + 1, .ref i, st => match st[i]? with
    | some (.lst xs) => (dvAll (fun v => dv n v st) xs).map .list
    | _ => none
def truthD : D → Option Bool
  | .none => some false
  | .bool b => some b
  | .int i => some (i != 0)
  | .str y => if y.length ≤ sizeLine then some ((y.length : Int) != 0) else none
  | .list xs => some (!xs.isEmpty)
  | .tuple xs => some (!xs.isEmpty)
  | .dict _ => none
def truthV (v : Val) (st : Sto) : Option Bool :=
  match v with
  | .d x => truthD x
  | .ref i => match st[i]? with
    | some (.lst xs) => some (!xs.isEmpty)
    | some (.dK kvs) => some (!kvs.isEmpty)
    | _ => none
def smallI (i : Int) : Bool := decide (-(2 ^ 64) < i) && decide (i < 2 ^ 64)
def bits (n : Nat) (i : Int) : Bool := decide (i.natAbs < 2 ^ n)
def mulOk (i j : Int) : Bool := smallI i || smallI j || (bits 400000 i && bits 400000 j)
def binI : Bop → Int → Int → Option Int
  | .add, i, j => some (i + j)
  | .sub, i, j => some (i - j)
  | .mul, i, j => if mulOk i j then some (i * j) else none
  | .fdiv, i, j => if 0 < j ∧ (j < 1073741824 ∨ bits 9000 j = true) then some (i / j) else none
  | .mod, i, j => if 0 < j then some (i % j) else none
  | .pow, i, j => if 0 ≤ j ∧ j ≤ 1000000 ∧ i.natAbs < 2 ^ 64 then some (i ^ j.toNat) else none
  | .shl, i, j => if 0 ≤ j ∧ j ≤ 1000000 ∧ i.natAbs < 2 ^ 64 then some (i * 2 ^ j.toNat) else none
  | .shr, i, j => if 0 ≤ j then some (i / 2 ^ j.toNat) else none
  | .band, i, j => some (Builtin.bitAnd i j)
  | .bor, i, j => some (Builtin.bitOr i j)
def binD (o : Bop) (x y : D) : Option D :=
  match x, y with
  | .int i, .int j => (binI o i j).map .int
  | .tuple xs, .tuple ys => match o with
    | .add => if xs.length + ys.length ≤ sizeLine then some (.tuple (xs ++ ys)) else none
    | _ => none
  | .str a, .str b => match o with
    | .add => if a.length + b.length ≤ sizeLine then some (.str (a ++ b)) else none
    | _ => none
  | _, _ => none
def repL (xs : List Val) : Nat → List Val
  | 0 => []
  | n + 1 => xs ++ repL xs n
def binV (r : Bool) (o : Bop) (x y : Val) (st : Sto) : R Val :=
  match lsOf x st, o with
  | some xs, .add => match lsOf y st with
    | some ys => mkL r (xs ++ ys) st
    | none => .no
  | some xs, .mul => match y with
    | .d (.int n) => if 0 ≤ n ∧ n ≤ 100000 ∧ xs.length ≤ 100 then mkL r (repL xs n.toNat) st else .no
    | _ => .no
  | some _, _ => .no
  | none, _ => match x, y with
    | .d x, .d y => .ofO ((binD o x y).map .d) st
    | _, _ => .no
/-- a text of one sign -/
def oneCh (x : Str) : Option Nat :=
  match x with
  | ⟨⟨[c]⟩⟩ => some c
  | _ => none
theorem oneCh_eq {x : Str} {c : Nat} (h : oneCh x = some c) : x = ⟨#[c]⟩ := by
  unfold oneCh at h
  split at h
  · cases h; rfl
  · cases h
def shapedB (d : D) : Bool := SeqAt.shaped d
def cmpD (o : Cop) (x y : D) : Option Bool :=
  match o with
  | .eq => match x, y with
    | .str a, .str b => some (decide (a = b))
    | x, y => if shapedB x && shapedB y then some (PyData.eqv x y) else none
  | .ne => match x, y with
    | .str a, .str b => some (!decide (a = b))
    | x, y => if shapedB x && shapedB y then some (!PyData.eqv x y) else none
  | .lt => match x, y with
    | .int i, .int j => some (decide (i < j))
    | _, _ => none
  | .le => match x, y with
    | .int i, .int j => some (decide (i ≤ j))
    | _, _ => none
  | .gt => match x, y with
    | .int i, .int j => some (decide (j < i))
    | _, _ => none
  | .ge => match x, y with
    | .int i, .int j => some (decide (j ≤ i))
    | _, _ => none
  | .inn => match y with
    | .list ds => if shapedB x && shapedB (.list ds) then some (ds.any fun z => PyData.eqv z x) else none
    | .tuple ds => if shapedB x && shapedB (.tuple ds) then some (ds.any fun z => PyData.eqv z x) else none
    | .str z => match x with
      | .str c => match oneCh c with
        | some c => some (decide (c ∈ z.cps.toList))
        | none => none
      | _ => none
    | _ => none
  | .nin => match y with
    | .list ds => if shapedB x && shapedB (.list ds) then some (!ds.any fun z => PyData.eqv z x) else none
    | .tuple ds => if shapedB x && shapedB (.tuple ds) then some (!ds.any fun z => PyData.eqv z x) else none
    | .str z => match x with
      | .str c => match oneCh c with
        | some c => some (!decide (c ∈ z.cps.toList))
        | none => none
      | _ => none
    | _ => none
def keyOf : D → Option Key
  | .int i => some (.inl i)
  | .str x => some (.inr x)
  | _ => none
def valK (k : Key) : List (Key × Val) → Option Val
  | [] => none
  | (j, v) :: r => if j = k then some v else valK k r
def putK (k : Key) (v : Val) (kvs : List (Key × Val)) : List (Key × Val) :=
  if (kvs.any fun kv => decide (kv.1 = k)) = true then kvs.map (fun kv => if kv.1 = k then (kv.1, v) else kv) else kvs ++ [(k, v)]
def cmpV (o : Cop) (x y : Val) (st : Sto) : Option Bool :=
  match y with
  | .ref i => match st[i]? with
    | some (.dK kvs) => match o, x with
      | .inn, .d k => (keyOf k).map fun k => (valK k kvs).isSome
      | .nin, .d k => (keyOf k).map fun k => !(valK k kvs).isSome
      | _, _ => none
    | _ => match dv 2 x st, dv 2 y st with
      | some a, some b => cmpD o a b
      | _, _ => none
  | _ => match dv 2 x st, dv 2 y st with
    | some a, some b => cmpD o a b
    | _, _ => none
def idxV (x y : Val) (st : Sto) : Option Val :=
  match y with
  | .d (.int i) => match seqOf x st with
    | some xs => match L2.ixN xs.length i with
      | some k => xs[k]?
      | none => none
    | none => match x with
      | .ref a => match st[a]? with
        | some (.dK kvs) => valK (.inl i) kvs
        | _ => none
      | .d (.str y) => if y.length ≤ sizeLine then match atI y.cps.toList i with
          | some c => some (.d (.str ⟨#[c]⟩))
          | none => none
        else none
      | _ => none
  | .d (.str k) => match x with
    | .ref a => match st[a]? with
      | some (.dK kvs) => valK (.inr k) kvs
      | _ => none
    | _ => none
  | _ => none
def subV (x y v : Val) (st : Sto) : Option Sto :=
  match x, y with
  | .ref a, .d k => match st[a]? with
    | some (.dK kvs) => match keyOf k with
      | some k => if kvs.length < sizeLine then some (st.set a (.dK (putK k v kvs))) else none
      | none => none
    | some (.lst xs) => match k with
      | .int i => match L2.ixN xs.length i with
        | some j => some (st.set a (.lst (xs.set j v)))
        | none => none
      | _ => none
    | _ => none
  | _, _ => none
def cutE (xs : List Val) (lo hi : Option Int) : List Val :=
  (xs.drop (HT.sIx xs.length 0 lo)).take (HT.sIx xs.length xs.length hi - HT.sIx xs.length 0 lo)
def intD : D → Option Int
  | .int i => some i
  | _ => none
def intV : Val → Option Int
  | .d (.int i) => some i
  | _ => none

def slV (r : Bool) (lo hi : Option Int) (x : Val) (st : Sto) : R Val :=
  match x with
  | .d (.tuple xs) => mkT (cutE (xs.map .d) lo hi) st
  | .d (.str z) => if z.length ≤ sizeLine then .ok (.d (.str (cutS z lo hi))) st else .no
  | x => match lsOf x st with
    | some xs => mkL r (cutE xs lo hi) st
    | none => .no
def revV (r : Bool) (x : Val) (st : Sto) : R Val :=
  match x with
  | .d (.tuple xs) => mkT (xs.map .d).reverse st
  | x => match lsOf x st with
    | some xs => mkL r xs.reverse st
    | none => .no

def noneB : Val → Bool
  | .d .none => true
  | _ => false
/-! ### built-in calls -/
def allInts : List Val → Option (List Int)
  | [] => some []
  | .d (.int i) :: r => (allInts r).map (i :: ·)
  | _ :: _ => none
def allBls : List Val → Option (List Bool)
  | [] => some []
  | .d (.bool b) :: r => (allBls r).map (b :: ·)
  | _ :: _ => none
def maxOf : List Int → Int → Int
  | [], m => m
  | x :: xs, m => maxOf xs (if x > m then x else m)
def minOf : List Int → Int → Int
  | [], m => m
  | x :: xs, m => minOf xs (if x < m then x else m)
def insI (x : Int) : List Int → List Int
  | [] => [x]
  | y :: ys => if x ≤ y then x :: y :: ys else y :: insI x ys
def sortI : List Int → List Int
  | [] => []
  | x :: xs => insI x (sortI xs)
def rangeI (lo : Int) : Nat → List D
  | 0 => []
  | n + 1 => .int lo :: rangeI (lo + 1) n
/-- sorted: alike data, in order, equal ones as they stood -/
def leD (x y : D) : Bool := !PySem.W.dataLt y x
def insD (x : D) : List D → List D
  | [] => [x]
  | y :: ys => if leD x y then x :: y :: ys else y :: insD x ys
def isortD : List D → List D
  | [] => []
  | x :: xs => insD x (isortD xs)
def allAlike (ds : List D) : Bool := ds.all fun a => ds.all fun b => PySem.W.alike a b
def isTup1 : D → Bool
  | .tuple (_ :: _) => true
  | _ => false
def noTup : D → Bool
  | .tuple _ => false
  | .none => false
  | _ => true
def sortOk (ds : List D) : Bool := allAlike ds && (ds.all isTup1 || ds.all noTup) && ds.all fun d => decide (d.depth ≤ 60)
def lenOf (v : Val) (st : Sto) : Option Nat :=
  match v with
  | .d (.str y) => if y.length ≤ sizeLine then some y.length else none
  | v => match seqOf v st with
    | some xs => some xs.length
    | none => match v with
      | .ref i => match st[i]? with
        | some (.dK kvs) => some kvs.length
        | _ => none
      | _ => none
def biV (r : Bool) (b : Bi) (vs : List Val) (st : Sto) : R Val :=
  match b, vs with
  | .len, [x] => .ofO ((lenOf x st).map fun (n : Nat) => Val.d (.int (n : Int))) st
  | .abs, [.d (.int i)] => .ok (.d (.int (if i < 0 then -i else i))) st
  | .int, [.d (.int i)] => .ok (.d (.int i)) st
  | .int, [.d (.bool k)] => .ok (.d (.int (if k then 1 else 0))) st
  | .max2, [.d (.int i), .d (.int j)] => .ok (.d (.int (if j > i then j else i))) st
  | .min2, [.d (.int i), .d (.int j)] => .ok (.d (.int (if j < i then j else i))) st
  | .tuple, [x] => match seqOf x st with
    | some xs => mkT xs st
    | none => .no
  | .list, [x] => match seqOf x st with
    | some xs => mkL r xs st
    | none => .no
  | .any, [x] => match lsOf x st with
    | some xs => .ofO ((allBls xs).map fun bs => .d (.bool (bs.any id))) st
    | none => .no
  | .all, [x] => match lsOf x st with
    | some xs => .ofO ((allBls xs).map fun bs => .d (.bool (bs.all id))) st
    | none => .no
  | .sorted, [x] => match lsOf x st with
    | some xs => match dats xs with
      | some ds => if sortOk ds then mkL r ((isortD ds).map .d) st else .no
      | none => .no
    | none => .no
  | .maxL, [x] => match seqOf x st with
    | some xs => match allInts xs with
      | some (n :: ns) => .ok (.d (.int (maxOf ns n))) st
      | _ => .no
    | none => .no
  | .minL, [x] => match seqOf x st with
    | some xs => match allInts xs with
      | some (n :: ns) => .ok (.d (.int (minOf ns n))) st
      | _ => .no
    | none => .no
  | .sum, [x] => match lsOf x st with
    | some xs => .ofO ((allInts xs).map fun ns => .d (.int ns.sum)) st
    | none => .no
  | .repr, [x] => match dv 8 x st with
    | some d => if (d.showable && (!d.hasDict && (decide (d.depth ≤ 60) && decide (d.shown.length ≤ sizeLine)))) = true then .ok (.d (.str d.shown)) st else .no
    | none => .no
  | .str, [.d (.int i)] => if i.natAbs.log2 < 1920 then .ok (.d (.str (toString i))) st else .no
  | _, _ => .no
def findD (d : D) : List D → Nat → Option Nat
  | [], _ => none
  | x :: xs, k => if PyData.eqv x d = true then some k else findD d xs (k + 1)
/-- what a method's receiver must be ahead of its arguments -/
def kindOk (m : Mt) (x : Val) (st : Sto) : Bool :=
  match m with
  | .append | .pop0 | .pop1 | .extend | .index | .insert => (lsOf x st).isSome
  | .join => match x with
    | .d (.str _) => true
    | _ => false
def mtV (m : Mt) (o : Val) (vs : List Val) (st : Sto) : R Val :=
  match m, vs with
  | .append, [v] => match o with
    | .ref a => match st[a]? with
      | some (.lst xs) => if xs.length < sizeLine then .ok (.d .none) (st.set a (.lst (xs ++ [v]))) else .no
      | _ => .no
    | _ => .no
  | .pop0, [] => match o with
    | .ref a => match st[a]? with
      | some (.lst xs) => match xs[xs.length - 1]? with
        | some v => .ok v (st.set a (.lst xs.dropLast))
        | none => .no
      | _ => .no
    | _ => .no
  | .pop1, [.d (.int i)] => match o with
    | .ref a => match st[a]? with
      | some (.lst xs) => match L2.ixN xs.length i with
        | some k => match xs[k]? with
          | some v => .ok v (st.set a (.lst (xs.eraseIdx k)))
          | none => .no
        | none => .no
      | _ => .no
    | _ => .no
  | .extend, [y] => match o with
    | .ref a => match st[a]?, lsOf y st with
      | some (.lst xs), some ys => if xs.length + ys.length ≤ sizeLine then .ok (.d .none) (st.set a (.lst (xs ++ ys))) else .no
      | _, _ => .no
    | _ => .no
  | .index, [y] => match dv 2 o st, dv 2 y st with
    | some (.list ds), some d => if shapedB d && shapedB (.list ds) then .ofO ((findD d ds 0).map fun (j : Nat) => Val.d (.int (j : Int))) st else .no
    | _, _ => .no
  | _, _ => .no
def isTy (x : D) : Ty → Bool
  | .int => match x with
    | .int _ => true
    | .bool _ => true
    | _ => false
  | .bool => match x with
    | .bool _ => true
    | _ => false
  | .str => match x with
    | .str _ => true
    | _ => false
  | .tuple => match x with
    | .tuple _ => true
    | _ => false
  | .list => match x with
    | .list _ => true
    | _ => false
  | .dict => false
def isiV (ts : List Ty) (v : Val) (st : Sto) : Option Bool :=
  match v with
  | .d x => some (ts.any (isTy x))
  | .ref _ => none

def keyV : Val → Option Key
  | .d d => keyOf d
  | .ref _ => none
def mergeD (ps : List (Key × Val)) : List (Key × Val) := ps.foldl (fun acc p => putK p.1 p.2 acc) []
def mkD (ps : List (Key × Val)) (st : Sto) : R Val :=
  if ps.length ≤ 100000 then .ok (.ref st.length) (st ++ [.dK (mergeD ps)]) else .no
/-- in order, each once -/
def insU (x : Int) : List Int → List Int
  | [] => [x]
  | y :: ys => if x < y then x :: y :: ys else if x = y then y :: ys else y :: insU x ys
def ssetI : List Int → List Int
  | [] => []
  | x :: xs => insU x (ssetI xs)
def ssetV (r : Bool) (x : Val) (st : Sto) : R Val :=
  match x with
  | .d (.tuple xs) => match allInts (xs.map .d) with
    | some ns => if (ssetI ns).length < 64 ∧ ns.length ≤ 4000 then mkL r ((ssetI ns).map fun i => .d (.int i)) st else .no
    | none => .no
  | .d (.list xs) => match allInts (xs.map .d) with
    | some ns => if (ssetI ns).length < 64 ∧ ns.length ≤ 4000 then mkL r ((ssetI ns).map fun i => .d (.int i)) st else .no
    | none => .no
  | _ => .no

/-! ### targets, iterables, loops -/
def asg : Tg → Val → Slots → Option Slots
  | .name i, v, en => some (en.set i (some v))
  | .nil, v, en => match v with
    | .d (.tuple []) => some en
    | _ => none
  | .cons g h, v, en => match v with
    | .d (.tuple (x :: xs)) => match asg g (.d x) en with
      | some en1 => asg h (.d (.tuple xs)) en1
      | none => none
    | _ => none
def wipeE (en : Slots) : List Nat → Slots
  | [] => en
  | v :: vs => (wipeE en vs).set v none
/-- what is walked: items that are known, or what is asked at each turn -/
inductive Src where
  | stat (xs : List D)
  | live (i : Nat)
def enumD (k : Nat) : List D → List D
  | [] => []
  | x :: xs => .tuple [.int k, x] :: enumD (k + 1) xs
def zipD : List D → List D → List D
  | x :: xs, y :: ys => .tuple [x, y] :: zipD xs ys
  | _, _ => []
def srcOf (v : Val) (st : Sto) : Option Src :=
  match v with
  | .d (.list xs) => some (.stat xs)
  | .d (.tuple xs) => some (.stat xs)
  | .ref i => match st[i]? with
    | some (.lst _) => some (.live i)
    | some (.scr xs) => some (.stat xs)
    | _ => none
  | _ => none
def itemsAt (st : Sto) (i : Nat) : Option (List Val) :=
  match st[i]? with
  | some (.lst xs) => some xs
  | _ => none
/-- a comprehension's loop over known items: what each turn gives, one behind the other -/
def mapS {α : Type} (f : Val → Sto → R (List α)) : List D → Sto → R (List α)
  | [], st => .ok [] st
  | x :: xs, st => (f (.d x) st).bind fun ys st1 => (mapS f xs st1).bind fun zs st2 => .ok (ys ++ zs) st2
def mapLive {α : Type} (f : Val → Sto → R (List α)) (i : Nat) : Nat → Nat → Sto → R (List α)
  | 0, _, _ => .no
  | n + 1, k, st => match itemsAt st i with
    | some xs => match xs[k]? with
      | none => .ok [] st
      | some x => (f x st).bind fun ys st1 => (mapLive f i n (k + 1) st1).bind fun zs st2 => .ok (ys ++ zs) st2
    | none => .no
def mapSrc {α : Type} (f : Val → Sto → R (List α)) (s : Src) (st : Sto) : R (List α) :=
  match s with
  | .stat xs => mapS f xs st
  | .live i => mapLive f i 100000 0 st
structure Ck where
  call : Nat → List Val → Sto → R Val
  glo : Nat → Option D

mutual
def evE (K : Ck) : E → Slots → Sto → R Val
  | .con c, _, st => .ok (.d c) st
  | .loc i, en, st => match en[i]? with
    | some (some v) => .ok v st
    | _ => .no
  | .glo i, _, st => .ofO ((K.glo i).map .d) st
  | .tup es, en, st => (evEs K es en st).bind mkT
  | .lst r es, en, st => (evEs K es en st).bind (mkL r)
  | .bin r o a b, en, st => (evE K a en st).bind fun x st1 => (evE K b en st1).bind fun y st2 => binV r o x y st2
  | .neg a, en, st => (evE K a en st).bind fun x st1 => .ofO ((intV x).map fun i => .d (.int (-i))) st1
  | .not a, en, st => (evE K a en st).bind fun x st1 => .ofO ((truthV x st1).map fun k => .d (.bool (!k))) st1
  | .cmp o a b, en, st => (evE K a en st).bind fun x st1 => (evE K b en st1).bind fun y st2 => .ofO ((cmpV o x y st2).map fun k => .d (.bool k)) st2
  | .cmp2 o p a b c, en, st => (evE K a en st).bind fun x st1 => (evE K b en st1).bind fun y st2 => match cmpV o x y st2 with
    | some true => (evE K c en st2).bind fun z st3 => .ofO ((cmpV p y z st3).map fun k => .d (.bool k)) st3
    | some false => .ok (.d (.bool false)) st2
    | none => .no
  | .and a b, en, st => (evE K a en st).bind fun x st1 => match truthV x st1 with
    | some true => evE K b en st1
    | some false => .ok x st1
    | none => .no
  | .or a b, en, st => (evE K a en st).bind fun x st1 => match truthV x st1 with
    | some true => .ok x st1
    | some false => evE K b en st1
    | none => .no
  | .ite c a b, en, st => (evE K c en st).bind fun x st1 => match truthV x st1 with
    | some true => evE K a en st1
    | some false => evE K b en st1
    | none => .no
  | .isN a, en, st => (evE K a en st).bind fun x st1 => .ok (.d (.bool (noneB x))) st1
  | .isNN a, en, st => (evE K a en st).bind fun x st1 => .ok (.d (.bool (!noneB x))) st1
  | .call f es, en, st => (evEs K es en st).bind fun vs st1 => K.call f vs st1
  | .bi r b es, en, st => (evEs K es en st).bind fun vs st1 => biV r b vs st1
  | .mt _ m o es, en, st => (evE K o en st).bind fun x st1 => if kindOk m x st1 then (evEs K es en st1).bind fun vs st2 => mtV m x vs st2 else .no
  | .idx a b, en, st => (evE K a en st).bind fun x st1 => (evE K b en st1).bind fun y st2 => .ofO (idxV x y st2) st2
  | .slc r a lo hi, en, st => (evE K a en st).bind fun x st1 => (evEo K lo en st1).bind fun l st2 => (evEo K hi en st2).bind fun h st3 =>
    slV r l h x st3
  | .rev r a, en, st => (evE K a en st).bind fun x st1 => revV r x st1
  | .lrng r it, en, st => (evI K it en st).bind fun s st1 => match s with
    | .stat xs => mkL r (xs.map .d) st1
    | .live _ => .no
  | .lc r x own g it c, en, st => (evI K it en st).bind fun s st1 =>
    ((mapSrc (fun v st2 => match asg g v (wipeE en own) with
      | none => .no
      | some en1 => (evC K c en1 st2).bind fun b st3 => if b then (evE K x en1 st3).bind fun y st4 => .ok [y] st4 else .ok [] st3) s st1).bind (mkL r)).calm
  | .lc2 r x own own1 g it g1 it1 c, en, st => (evI K it en st).bind fun s st1 =>
    ((mapSrc (fun v st2 => match asg g v (wipeE en own) with
      | none => .no
      | some en1 => (evI K it1 en1 st2).bind fun s1 st3 => mapSrc (fun v1 st4 => match asg g1 v1 (wipeE en1 own1) with
        | none => .no
        | some en2 => (evC K c en2 st4).bind fun b st5 => if b then (evE K x en2 st5).bind fun y st6 => .ok [y] st6 else .ok [] st5) s1 st3) s st1).bind (mkL r)).calm
  | .dct ks es, en, st => ((evEs K es en st).bind fun vs st1 => if vs.length = ks.length ∧ ks.length ≤ 15 then mkD (ks.zip vs) st1 else .no).calm
  | .dc k v own g it c, en, st => (evI K it en st).bind fun s st1 =>
    ((mapSrc (fun w st2 => match asg g w (wipeE en own) with
      | none => .no
      | some en1 => (evC K c en1 st2).bind fun b st3 => if b then (evE K k en1 st3).bind fun y st4 => (evE K v en1 st4).bind fun z st5 => match keyV y with
        | some q => .ok [(q, z)] st5
        | none => .no
      else .ok [] st3) s st1).bind mkD).calm
  | .sset r a, en, st => (evE K a en st).bind fun x st1 => ssetV r x st1
  | .isi a ts, en, st => (evE K a en st).bind fun x st1 => .ofO ((isiV ts x st1).map fun k => .d (.bool k)) st1
  | .fld _ _, _, _ => .no
  | .gidx i a, en, st => match K.glo i with
    | some (.tuple ds) => (evE K a en st).bind fun y st1 => match dv 2 y st1 with
      | some d => if shapedB d && shapedB (.tuple ds) then .ofO ((findD d ds 0).map fun (j : Nat) => Val.d (.int (j : Int))) st1 else .no
      | none => .no
    | _ => .no
/-- a bound of a slice: none, or an int -/
def evEo (K : Ck) : Eo → Slots → Sto → R (Option Int)
  | .none, _, st => .ok none st
  | .some e, en, st => (evE K e en st).bind fun x st1 => .ofO ((intV x).map some) st1
/-- a comprehension's test -/
def evC (K : Ck) : Eo → Slots → Sto → R Bool
  | .none, _, st => .ok true st
  | .some e, en, st => (evE K e en st).bind fun x st1 => .ofO (truthV x st1) st1
def evEs (K : Ck) : Es → Slots → Sto → R (List Val)
  | .nil, _, st => .ok [] st
  | .cons e es, en, st => (evE K e en st).bind fun x st1 => (evEs K es en st1).bind fun xs st2 => .ok (x :: xs) st2
  | .star e es, en, st => (evE K e en st).bind fun x st1 => match seqOf x st1 with
    | some xs => (evEs K es en st1).bind fun ys st2 => .ok (xs ++ ys) st2
    | none => .no
def evI (K : Ck) : I → Slots → Sto → R Src
  | .ex e, en, st => (evE K e en st).bind fun x st1 => .ofO (srcOf x st1) st1
  | .rng1 a, en, st => (evE K a en st).bind fun x st1 => .ofO ((intV x).bind fun i => if -16777216 < i ∧ i < 16777216 then some (.stat (rangeI 0 i.toNat)) else none) st1
  | .rng2 a b, en, st => (evE K a en st).bind fun x st1 => (evE K b en st1).bind fun y st2 => match intV x, intV y with
    | some i, some j => if -16777216 < i ∧ i < 16777216 ∧ -16777216 < j ∧ j < 16777216 then .ok (.stat (rangeI i (j - i).toNat)) st2 else .no
    | _, _ => .no
  | .enm e, en, st => (evE K e en st).bind fun x st1 => match x with
    | .d (.list xs) => .ok (.stat (enumD 0 xs)) st1
    | .d (.tuple xs) => .ok (.stat (enumD 0 xs)) st1
    | _ => .no
  | .zip _ a b, en, st => (evE K a en st).bind fun x st1 => (evE K b en st1).bind fun y st2 => match x, y with
    | .d (.list xs), .d (.list ys) => .ok (.stat (zipD xs ys)) st2
    | .d (.tuple xs), .d (.tuple ys) => .ok (.stat (zipD xs ys)) st2
    | _, _ => .no
end

/-! ### statements -/
inductive Fl where
  | nx (en : Slots)
  | rt (v : Val)
  | bk (en : Slots)
  | ct (en : Slots)
def forS (f : Val → Slots → Sto → R Fl) : List D → Slots → Sto → R Fl
  | [], en, st => .ok (.nx en) st
  | x :: xs, en, st => (f (.d x) en st).bind fun fl st1 => match fl with
    | .nx en1 => forS f xs en1 st1
    | .ct en1 => forS f xs en1 st1
    | .bk en1 => .ok (.nx en1) st1
    | .rt v => .ok (.rt v) st1
def forLive (f : Val → Slots → Sto → R Fl) (i : Nat) : Nat → Nat → Slots → Sto → R Fl
  | 0, _, _, _ => .no
  | n + 1, k, en, st => match itemsAt st i with
    | some xs => match xs[k]? with
      | none => .ok (.nx en) st
      | some x => (f x en st).bind fun fl st1 => match fl with
        | .nx en1 => forLive f i n (k + 1) en1 st1
        | .ct en1 => forLive f i n (k + 1) en1 st1
        | .bk en1 => .ok (.nx en1) st1
        | .rt v => .ok (.rt v) st1
    | none => .no
def forSrc (f : Val → Slots → Sto → R Fl) (s : Src) (en : Slots) (st : Sto) : R Fl :=
  match s with
  | .stat xs => forS f xs en st
  | .live i => forLive f i 100000 0 en st
def whileF (c : Slots → Sto → R Bool) (f : Slots → Sto → R Fl) : Nat → Slots → Sto → R Fl
  | 0, _, _ => .no
  | n + 1, en, st => (c en st).bind fun b st1 => if b then (f en st1).bind fun fl st2 => match fl with
      | .nx en1 => whileF c f n en1 st2
      | .ct en1 => whileF c f n en1 st2
      | .bk en1 => .ok (.nx en1) st2
      | .rt v => .ok (.rt v) st2
    else .ok (.nx en) st1
def setAll : List Nat → List Val → Slots → Option Slots
  | [], [], en => some en
  | i :: is, v :: vs, en => setAll is vs (en.set i (some v))
  | _, _, _ => none
def ipV (o : Bop) (x y : Val) (st : Sto) : R Val :=
  match x, y with
  | .d (.int i), .d (.int j) => .ofO ((binI o i j).map fun k => .d (.int k)) st
  | _, _ => .no
mutual
def evS (K : Ck) : S → Slots → Sto → R Fl
  | .expr e, en, st => (evE K e en st).bind fun _ st1 => .ok (.nx en) st1
  | .set i e, en, st => (evE K e en st).bind fun x st1 => .ok (.nx (en.set i (some x))) st1
  | .unp g e, en, st => (evE K e en st).bind fun x st1 => .ofO ((asg g x en).map .nx) st1
  | .par is es, en, st => (evEs K es en st).bind fun vs st1 => .ofO ((setAll is vs en).map .nx) st1
  | .sub o i e, en, st => (evE K e en st).bind fun v st1 => (evE K o en st1).bind fun x st2 => (evE K i en st2).bind fun y st3 => match subV x y v st3 with
    | some st4 => .ok (.nx en) st4
    | none => .no
  | .aug i o e, en, st => match en[i]? with
    | some (some x) => (evE K e en st).bind fun y st1 => (ipV o x y st1).bind fun z st2 => .ok (.nx (en.set i (some z))) st2
    | _ => .no
  | .ite c a b, en, st => (evE K c en st).bind fun x st1 => match truthV x st1 with
    | some true => evSs K a en st1
    | some false => evSs K b en st1
    | none => .no
  | .loop g it b, en, st => (evI K it en st).bind fun s st1 => forSrc (fun v en1 st2 => match asg g v en1 with
    | some en2 => evSs K b en2 st2
    | none => .no) s en st1
  | .whl c b, en, st => whileF (fun en1 st1 => (evE K c en1 st1).bind fun x st2 => .ofO (truthV x st2) st2) (fun en1 st1 => evSs K b en1 st1) 100000 en st
  | .ret e, en, st => (evE K e en st).bind fun x st1 => .ok (.rt x) st1
  | .ret0, _, st => .ok (.rt (.d .none)) st
  | .pass, en, st => .ok (.nx en) st
  | .brk, en, st => .ok (.bk en) st
  | .cnt, en, st => .ok (.ct en) st
  | .frz i, en, st => match en[i]? with
    | some (some v) => match Ev.frz 8 v st with
      | some (d, st1) => .ok (.nx (en.set i (some (.d d)))) st1
      | none => .no
    | _ => .no
def evSs (K : Ck) : Ss → Slots → Sto → R Fl
  | .nil, en, st => .ok (.nx en) st
  | .cons s ss, en, st => (evS K s en st).bind fun fl st1 => match fl with
    | .nx en1 => evSs K ss en1 st1
    | fl => .ok fl st1
end
def startE (n : Nat) (vs : List Val) : Slots := vs.map some ++ List.replicate (n - vs.length) none
def finish (r : R Fl) : R Val := r.bind fun fl st => match fl with
  | .nx _ => .ok (.d .none) st
  | .rt v => .ok v st
  | _ => .no
def runDef (K : Ck) (d : Def) (vs : List Val) (st : Sto) : R Val :=
  if vs.length = d.np then
    if d.pure then match frzAll (frz 8) vs st with
      | some (ds, st1) => match finish (evSs K d.body (startE d.ns (ds.map .d)) []) with
        | .ok v st0 => match frz 8 v st0 with
          | some (x, _) => .ok (.d x) st1
          | none => .no
        | _ => .no
      | none => .no
    else finish (evSs K d.body (startE d.ns vs) st)
  else .no
/-- calls, to a depth -/
def calls (defs : Nat → Option Def) (glo : Nat → Option D) : Nat → Nat → List Val → Sto → R Val
  | 0, _, _, _ => .no
  | k + 1, f, vs, st => match defs f with
    | some d => runDef ⟨calls defs glo k, glo⟩ d vs st
    | none => .no
end Ev
set_option Elab.async false
set_option linter.all false
set_option maxRecDepth 100000
/-! Ev2: how the values and the store stand in the heap; outcomes. -/
namespace Ev
open PySem PySem.Spec PyProof.Rows L2

/-! ### data in a heap that grows -/
theorem SqL.mono {K : PySem.W.Frag} {H H' : Hp} {a : Addr} {xs : List V} (h : SqL K H a xs) (m : ∀ a o, H a = some o → H' a = some o) : SqL K H' a xs := by
  rcases h with h | h
  · rcases h with h | ⟨o, h⟩
    · exact .inl (.inl (m _ _ h))
    · exact .inl (.inr ⟨o, m _ _ h⟩)
  · exact .inr h
theorem SqT.mono {K : PySem.W.Frag} {H H' : Hp} {a : Addr} {xs : List V} (h : SqT K H a xs) (m : ∀ a o, H a = some o → H' a = some o) : SqT K H' a xs := by
  rcases h with h | h
  · rcases h with h | ⟨o, h⟩
    · exact .inl (.inl (m _ _ h))
    · exact .inl (.inr ⟨o, m _ _ h⟩)
  · exact .inr h
mutual
inductive Dq (K : PySem.W.Frag) (H : Hp) : V → D → Prop
  | non : Dq K H .non .none
  | bl (b : Bool) : Dq K H (.bl b) (.bool b)
  | int (i : Int) : Dq K H (.int i) (.int i)
  | str (x : Str) : Dq K H (.str x) (.str x)
  | lst {a : Addr} {xs : List V} {ds : List D} : H a = some (.lst xs) → DqAll K H xs ds → Dq K H (.ref a) (.list ds)
  | tup {a : Addr} {xs : List V} {ds : List D} : SqT K H a xs → DqAll K H xs ds → Dq K H (.ref a) (.tuple ds)
inductive DqAll (K : PySem.W.Frag) (H : Hp) : List V → List D → Prop
  | nil : DqAll K H [] []
  | cons {v : V} {vs : List V} {d : D} {ds : List D} : Dq K H v d → DqAll K H vs ds → DqAll K H (v :: vs) (d :: ds)
end
mutual
theorem Dq.mono {K : PySem.W.Frag} {H H' : Hp} (m : ∀ a o, H a = some o → H' a = some o) : ∀ (d : D) {v : V}, Dq K H v d → Dq K H' v d
  | .none, _, h => by cases h; exact .non
  | .bool b, _, h => by cases h; exact .bl _
  | .int i, _, h => by cases h; exact .int _
  | .str x, _, h => by cases h; exact .str _
  | .list ds, _, h => by
    cases h with
    | lst hs ha => exact .lst (m _ _ hs) (Dq.monoAll m ds ha)
  | .tuple ds, _, h => by
    cases h with
    | tup hs ha => exact .tup (SqT.mono hs m) (Dq.monoAll m ds ha)
  | .dict _, _, h => by cases h
theorem Dq.monoAll {K : PySem.W.Frag} {H H' : Hp} (m : ∀ a o, H a = some o → H' a = some o) : ∀ (ds : List D) {vs : List V}, DqAll K H vs ds → DqAll K H' vs ds
  | [], _, h => by cases h; exact .nil
  | d :: ds, _, h => by
    cases h with
    | cons h1 h2 => exact .cons (Dq.mono m d h1) (Dq.monoAll m ds h2)
end
mutual
theorem Dp.mono' {K : PySem.W.Frag} {H H' : Hp} (m : ∀ a o, H a = some o → H' a = some o) : ∀ {d : D} {v : V}, Dp K H v d → Dp K H' v d
  | .none, _, h => by cases h; exact .non
  | .bool b, _, h => by cases h; exact .bl _
  | .int i, _, h => by cases h; exact .int _
  | .str x, _, h => by cases h; exact .str _
  | .list ds, _, h => by
    cases h with
    | lst hs ha => exact .lst (SqL.mono hs m) (Dp.monoAll' m ha)
  | .tuple ds, _, h => by
    cases h with
    | tup hs ha => exact .tup (SqT.mono hs m) (Dp.monoAll' m ha)
  | .dict _, _, h => by cases h
theorem Dp.monoAll' {K : PySem.W.Frag} {H H' : Hp} (m : ∀ a o, H a = some o → H' a = some o) : ∀ {ds : List D} {vs : List V}, DpAll K H vs ds → DpAll K H' vs ds
  | [], _, h => by cases h; exact .nil
  | d :: ds, _, h => by
    cases h with
    | cons h1 h2 => exact .cons (Dp.mono' m h1) (Dp.monoAll' m h2)
end
mutual
theorem Dq.dp {K : PySem.W.Frag} {H : Hp} : ∀ (d : D) {v : V}, Dq K H v d → Dp K H v d
  | .none, _, h => by cases h; exact .non
  | .bool b, _, h => by cases h; exact .bl _
  | .int i, _, h => by cases h; exact .int _
  | .str x, _, h => by cases h; exact .str _
  | .list ds, _, h => by
    cases h with
    | lst hs ha => exact .lst (.of hs) (Dq.dpAll ds ha)
  | .tuple ds, _, h => by
    cases h with
    | tup hs ha => exact .tup hs (Dq.dpAll ds ha)
  | .dict _, _, h => by cases h
theorem Dq.dpAll {K : PySem.W.Frag} {H : Hp} : ∀ (ds : List D) {vs : List V}, DqAll K H vs ds → DpAll K H vs ds
  | [], _, h => by cases h; exact .nil
  | d :: ds, _, h => by
    cases h with
    | cons h1 h2 => exact .cons (Dq.dp d h1) (Dq.dpAll ds h2)
end
theorem DqAll.length {K : PySem.W.Frag} {H : Hp} : ∀ {ds : List D} {vs : List V}, DqAll K H vs ds → vs.length = ds.length
  | [], _, h => by cases h; rfl
  | d :: ds, _, h => by
    cases h with
    | cons h1 h2 => rw [List.length_cons, List.length_cons, DqAll.length h2]
theorem DqAll.append {K : PySem.W.Frag} {H : Hp} : ∀ {ds es : List D} {vs us : List V}, DqAll K H vs ds → DqAll K H us es → DqAll K H (vs ++ us) (ds ++ es)
  | [], _, _, _, h, g => by cases h; exact g
  | d :: ds, _, _, _, h, g => by
    cases h with
    | cons h1 h2 => exact .cons h1 (DqAll.append h2 g)

/-! ### values, places -/
def RV (K : PySem.W.Frag) (φ : Nat → Addr) (n : Nat) (Hf : Hp) (x : Val) (v : V) : Prop :=
  match x with
  | .d d => Dq K Hf v d
  | .ref i => i < n ∧ v = .ref (φ i)
abbrev RVs (K : PySem.W.Frag) (φ : Nat → Addr) (n : Nat) (Hf : Hp) : List Val → List V → Prop := Paired (RV K φ n Hf)
def RO (K : PySem.W.Frag) (φ : Nat → Addr) (n : Nat) (Hf : Hp) : Cell → HO → Prop
  | .lst xs, o => ∃ vs, o = .lst vs ∧ RVs K φ n Hf xs vs
  | .dK kvs, o => ∃ ks, o = .dK ks ∧ Paired (fun (p : Key × Val) (q : Key × V) => p.1 = q.1 ∧ RV K φ n Hf p.2 q.2) kvs ks
  | .dN _, _ => False
  | .ins _ _, _ => False
  | .scr _, _ => False
  | .dead, _ => False
def Live (st : Sto) (i : Nat) : Prop := ∃ c, st[i]? = some c ∧ c.on = true
def ScrOk (K : PySem.W.Frag) (φ : Nat → Addr) (Hf : Hp) (st : Sto) : Prop := ∀ i xs, st[i]? = some (.scr xs) → ∃ vs, SqL K Hf (φ i) vs ∧ DqAll K Hf vs xs
/-- the store stands in H: Hf, what data may lean on; F, what is kept beside -/
structure RS (K : PySem.W.Frag) (φ : Nat → Addr) (Hf F : Hp) (st : Sto) (H : Hp) : Prop where
  sub : ∀ a o, Hf a = some o → H a = some o
  fr : ∀ a o, F a = some o → H a = some o
  dis : ∀ a o, F a = some o → Hf a = none
  cell : ∀ i c, st[i]? = some c → c.on = true → ∃ o, H (φ i) = some o ∧ RO K φ st.length Hf c o ∧ Hf (φ i) = none ∧ F (φ i) = none
  inj : ∀ i j, Live st i → Live st j → φ i = φ j → i = j
  scr : ScrOk K φ Hf st
/-- later: more data, more places -/
structure Up (φ : Nat → Addr) (Hf : Hp) (n : Nat) (φ' : Nat → Addr) (Hf' : Hp) (n' : Nat) : Prop where
  le : n ≤ n'
  eq : ∀ i, i < n → φ' i = φ i
  up : ∀ a o, Hf a = some o → Hf' a = some o
theorem Up.refl {φ : Nat → Addr} {Hf : Hp} {n : Nat} : Up φ Hf n φ Hf n := ⟨Nat.le_refl _, fun _ _ => rfl, fun _ _ h => h⟩
theorem Up.trans {φ φ1 φ2 : Nat → Addr} {Hf Hf1 Hf2 : Hp} {n n1 n2 : Nat} (a : Up φ Hf n φ1 Hf1 n1) (b : Up φ1 Hf1 n1 φ2 Hf2 n2) : Up φ Hf n φ2 Hf2 n2 :=
  ⟨Nat.le_trans a.le b.le, fun i h => (b.eq i (Nat.lt_of_lt_of_le h a.le)).trans (a.eq i h), fun x o h => b.up _ _ (a.up _ _ h)⟩
theorem RV.up {K : PySem.W.Frag} {φ φ' : Nat → Addr} {Hf Hf' : Hp} {n n' : Nat} {x : Val} {v : V} (h : RV K φ n Hf x v) (u : Up φ Hf n φ' Hf' n') : RV K φ' n' Hf' x v := by
  cases x with
  | d d => exact Dq.mono u.up d h
  | ref i => exact ⟨Nat.lt_of_lt_of_le h.1 u.le, by rw [u.eq i h.1]; exact h.2⟩
theorem RVs.up {K : PySem.W.Frag} {φ φ' : Nat → Addr} {Hf Hf' : Hp} {n n' : Nat} {xs : List Val} {vs : List V} (h : RVs K φ n Hf xs vs) (u : Up φ Hf n φ' Hf' n') : RVs K φ' n' Hf' xs vs :=
  Paired.mapP h fun _ _ r => r.up u
theorem RO.up {K : PySem.W.Frag} {φ φ' : Nat → Addr} {Hf Hf' : Hp} {n n' : Nat} {c : Cell} {o : HO} (h : RO K φ n Hf c o) (u : Up φ Hf n φ' Hf' n') : RO K φ' n' Hf' c o := by
  cases c with
  | lst xs => obtain ⟨vs, e, r⟩ := h; exact ⟨vs, e, RVs.up r u⟩
  | dK kvs => obtain ⟨ks, e, r⟩ := h; exact ⟨ks, e, Paired.mapP r fun _ _ z => ⟨z.1, z.2.up u⟩⟩
  | dN _ => exact h.elim
  | ins _ _ => exact h.elim
  | scr _ => exact h.elim
  | dead => exact h.elim

theorem ScrOk.up {K : PySem.W.Frag} {φ φ' : Nat → Addr} {Hf Hf' : Hp} {n' : Nat} {st : Sto} (h : ScrOk K φ Hf st) (u : Up φ Hf st.length φ' Hf' n') : ScrOk K φ' Hf' st := fun i xs e => by
  obtain ⟨vs, q, r⟩ := h i xs e
  refine ⟨vs, ?_, Dq.monoAll u.up xs r⟩
  rw [u.eq i (List.getElem?_eq_some_iff.mp e).1]
  exact SqL.mono q u.up
theorem ScrOk.set {K : PySem.W.Frag} {φ : Nat → Addr} {Hf : Hp} {st : Sto} (h : ScrOk K φ Hf st) {i : Nat} {c : Cell} (hc : c.on = true ∨ c = .dead) : ScrOk K φ Hf (st.set i c) := fun j xs e => by
  by_cases ij : i = j
  · subst ij
    by_cases hi : i < st.length
    · rw [List.getElem?_set_self hi] at e
      cases e
      rcases hc with z | z <;> cases z
    · rw [List.getElem?_eq_none (by rw [List.length_set]; omega)] at e
      cases e
  · rw [List.getElem?_set_ne ij] at e
    exact h j xs e
theorem ScrOk.push {K : PySem.W.Frag} {φ : Nat → Addr} {Hf : Hp} {st : Sto} (h : ScrOk K φ Hf st) {c : Cell} (hc : c.on = true) : ScrOk K φ Hf (st ++ [c]) := fun j xs e => by
  by_cases hj : j < st.length
  · rw [List.getElem?_append_left hj] at e
    exact h j xs e
  · rw [List.getElem?_append_right (Nat.le_of_not_lt hj)] at e
    have h1 : j - st.length < [c].length := (List.getElem?_eq_some_iff.mp e).1
    have h2 : j - st.length = 0 := by
      rw [List.length_singleton] at h1
      omega
    rw [h2] at e
    cases e
    cases hc
def ext (φ : Nat → Addr) (n : Nat) (p : Addr) (i : Nat) : Addr := if i = n then p else φ i
theorem ext_same {φ : Nat → Addr} {n : Nat} {p : Addr} : ext φ n p n = p := if_pos rfl
theorem ext_lt {φ : Nat → Addr} {n : Nat} {p : Addr} {i : Nat} (h : i < n) : ext φ n p i = φ i := if_neg (Nat.ne_of_lt h)
/-- data are values, values that are data are data -/
theorem RVs.of_dats {K : PySem.W.Frag} {φ : Nat → Addr} {n : Nat} {Hf : Hp} : ∀ {xs : List Val} {ds : List D} {vs : List V}, dats xs = some ds → RVs K φ n Hf xs vs → DqAll K Hf vs ds
  | [], _, _, e, h => by
    cases h
    cases e
    exact .nil
  | .d x :: xs, ds, _, e, h => by
    cases h with
    | cons h1 h2 =>
      obtain ⟨es, e1, rfl⟩ := Option.map_eq_some_iff.mp (show (dats xs).map (x :: ·) = some ds from e)
      exact .cons h1 (RVs.of_dats e1 h2)
  | .ref _ :: _, _, _, e, _ => by cases e
theorem RVs.to_dats {K : PySem.W.Frag} {φ : Nat → Addr} {n : Nat} {Hf : Hp} : ∀ {ds : List D} {vs : List V}, DqAll K Hf vs ds → RVs K φ n Hf (ds.map .d) vs
  | [], _, h => by cases h; exact .nil
  | d :: ds, _, h => by
    cases h with
    | cons h1 h2 => exact .cons h1 (RVs.to_dats h2)
theorem dats_len : ∀ {xs : List Val} {ds : List D}, dats xs = some ds → ds.length = xs.length
  | [], _, e => by cases e; rfl
  | .d x :: xs, ds, e => by
    obtain ⟨es, e1, rfl⟩ := Option.map_eq_some_iff.mp (show (dats xs).map (x :: ·) = some ds from e)
    rw [List.length_cons, List.length_cons, dats_len e1]
  | .ref _ :: _, _, e => by cases e
theorem dats_map : ∀ ds : List D, dats (ds.map .d) = some ds
  | [] => rfl
  | d :: ds => by
    show (dats (ds.map .d)).map (d :: ·) = _
    rw [dats_map ds]
    rfl
section
variable {K : PySem.W.Frag} {φ : Nat → Addr} {Hf F : Hp} {st : Sto} {H : Hp}
theorem RS.ne_live (r : RS K φ Hf F st H) {p : Addr} (hp : H p = none) {i : Nat} (l : Live st i) : φ i ≠ p := by
  obtain ⟨c, h1, h2⟩ := l
  obtain ⟨o, e, _⟩ := r.cell i c h1 h2
  intro z
  rw [z, hp] at e
  cases e
/-- a new datum is laid -/
theorem RS.lay (r : RS K φ Hf F st H) {p : Addr} {o : HO} (hp : H p = none) : RS K φ (upd Hf p o) F st (upd H p o) ∧ Up φ Hf st.length φ (upd Hf p o) st.length := by
  have hfp : Hf p = none := by
    cases e : Hf p with
    | none => rfl
    | some u => rw [r.sub p u e] at hp; cases hp
  have hFp : F p = none := by
    cases e : F p with
    | none => rfl
    | some u => rw [r.fr p u e] at hp; cases hp
  have u : Up φ Hf st.length φ (upd Hf p o) st.length := ⟨Nat.le_refl _, fun _ _ => rfl, fun a x h => by
    rw [upd_ne (ne_of_none h hfp)]
    exact h⟩
  refine ⟨⟨fun a x h => ?_, fun a x h => ?_, fun a x h => ?_, fun i c h1 h2 => ?_, r.inj, r.scr.up u⟩, u⟩
  · by_cases e : a = p
    · subst e; rw [upd_same] at h ⊢; exact h
    · rw [upd_ne e] at h ⊢; exact r.sub _ _ h
  · rw [upd_ne (ne_of_none h hFp)]; exact r.fr _ _ h
  · rw [upd_ne (ne_of_none h hFp)]; exact r.dis _ _ h
  · obtain ⟨ob, e, ro, z1, z2⟩ := r.cell i c h1 h2
    have ne : φ i ≠ p := r.ne_live hp ⟨c, h1, h2⟩
    exact ⟨ob, by rw [upd_ne ne]; exact e, ro.up u, by rw [upd_ne ne]; exact z1, z2⟩
/-- a new place -/
theorem RS.push (r : RS K φ Hf F st H) {p : Addr} {o : HO} {c : Cell} (hp : H p = none) (hc : c.on = true)
    (ho : RO K (ext φ st.length p) (st.length + 1) Hf c o) :
    RS K (ext φ st.length p) Hf F (st ++ [c]) (upd H p o) ∧ Up φ Hf st.length (ext φ st.length p) Hf (st ++ [c]).length := by
  have hfp : Hf p = none := by
    cases e : Hf p with
    | none => rfl
    | some u => rw [r.sub p u e] at hp; cases hp
  have hFp : F p = none := by
    cases e : F p with
    | none => rfl
    | some u => rw [r.fr p u e] at hp; cases hp
  have u : Up φ Hf st.length (ext φ st.length p) Hf (st ++ [c]).length :=
    ⟨by rw [List.length_append]; exact Nat.le_add_right _ _, fun i h => ext_lt h, fun _ _ h => h⟩
  have at_ : ∀ i x, (st ++ [c])[i]? = some x → (i < st.length ∧ st[i]? = some x) ∨ (i = st.length ∧ x = c) := fun i x h => by
    by_cases hi : i < st.length
    · rw [List.getElem?_append_left hi] at h; exact .inl ⟨hi, h⟩
    · rw [List.getElem?_append_right (Nat.le_of_not_lt hi)] at h
      have h1 : i - st.length < [c].length := (List.getElem?_eq_some_iff.mp h).1
      have h2 : i = st.length := by
        rw [List.length_singleton] at h1
        omega
      subst h2
      rw [Nat.sub_self] at h
      exact .inr ⟨rfl, (Option.some.inj h).symm⟩
  refine ⟨⟨fun a x h => ?_, fun a x h => ?_, r.dis, fun i x h1 h2 => ?_, fun i j hi hj e => ?_, (r.scr.up u).push hc⟩, u⟩
  · rw [upd_ne (ne_of_none h hfp)]; exact r.sub _ _ h
  · rw [upd_ne (ne_of_none h hFp)]; exact r.fr _ _ h
  · rcases at_ i x h1 with ⟨hi, h⟩ | ⟨rfl, rfl⟩
    · obtain ⟨ob, e, ro, z1, z2⟩ := r.cell i x h h2
      have ne : φ i ≠ p := r.ne_live hp ⟨x, h, h2⟩
      rw [ext_lt hi]
      exact ⟨ob, by rw [upd_ne ne]; exact e, ro.up u, z1, z2⟩
    · rw [ext_same]
      exact ⟨o, upd_same, by rw [List.length_append]; exact ho, hfp, hFp⟩
  · obtain ⟨x, h1, h2⟩ := hi
    obtain ⟨y, h3, h4⟩ := hj
    rcases at_ i x h1 with ⟨hi, h⟩ | ⟨rfl, rfl⟩
    · rcases at_ j y h3 with ⟨hj, h'⟩ | ⟨rfl, rfl⟩
      · rw [ext_lt hi, ext_lt hj] at e
        exact r.inj i j ⟨x, h, h2⟩ ⟨y, h', h4⟩ e
      · rw [ext_lt hi, ext_same] at e
        exact absurd e (r.ne_live hp ⟨x, h, h2⟩)
    · rcases at_ j y h3 with ⟨hj, h'⟩ | ⟨rfl, rfl⟩
      · rw [ext_lt hj, ext_same] at e
        exact absurd e.symm (r.ne_live hp ⟨y, h', h4⟩)
      · rfl
/-- a place is written -/
theorem RS.write (r : RS K φ Hf F st H) {i : Nat} {c0 c : Cell} {o : HO} (h0 : st[i]? = some c0) (hd : c0.on = true) (ho : RO K φ st.length Hf c o) (hc : c.on = true) : RS K φ Hf F (st.set i c) (upd H (φ i) o) := by
  obtain ⟨o0, e0, _, z1, z2⟩ := r.cell i c0 h0 hd
  have li : i < st.length := (List.getElem?_eq_some_iff.mp h0).1
  have lv : ∀ j, Live (st.set i c) j → Live st j := fun j ⟨x, h1, h2⟩ => by
    by_cases e : i = j
    · subst e; exact ⟨c0, h0, hd⟩
    · rw [List.getElem?_set_ne e] at h1; exact ⟨x, h1, h2⟩
  refine ⟨fun a x h => ?_, fun a x h => ?_, r.dis, fun j x h1 h2 => ?_, fun a b ha hb e => r.inj a b (lv a ha) (lv b hb) e, r.scr.set (.inl hc)⟩
  · rw [upd_ne (ne_of_none h z1)]; exact r.sub _ _ h
  · rw [upd_ne (ne_of_none h z2)]; exact r.fr _ _ h
  · rw [List.length_set]
    by_cases e : i = j
    · subst e
      rw [List.getElem?_set_self li] at h1
      cases h1
      exact ⟨o, upd_same, ho, z1, z2⟩
    · rw [List.getElem?_set_ne e] at h1
      obtain ⟨ob, e1, ro, y1, y2⟩ := r.cell j x h1 h2
      have ne : φ j ≠ φ i := fun z => e (r.inj i j ⟨c0, h0, hd⟩ ⟨x, h1, h2⟩ z.symm)
      exact ⟨ob, by rw [upd_ne ne]; exact e1, ro, y1, y2⟩
end
/-- the slots -/
def RE (K : PySem.W.Frag) (φ : Nat → Addr) (n : Nat) (Hf : Hp) (en : Slots) (σ : L2.St) : Prop :=
  en.length = σ.length ∧ ∀ (i : Nat) (x : Val), en[i]? = some (some x) → ∃ v, σ[i]? = some (some v) ∧ RV K φ n Hf x v
theorem RE.up {K : PySem.W.Frag} {φ φ' : Nat → Addr} {Hf Hf' : Hp} {n n' : Nat} {en : Slots} {σ : L2.St} (h : RE K φ n Hf en σ) (u : Up φ Hf n φ' Hf' n') : RE K φ' n' Hf' en σ :=
  ⟨h.1, fun i x e => let ⟨v, e1, r⟩ := h.2 i x e; ⟨v, e1, r.up u⟩⟩
theorem RE.set {K : PySem.W.Frag} {φ : Nat → Addr} {Hf : Hp} {n : Nat} {en : Slots} {σ : L2.St} {i : Nat} {x : Val} {v : V} (h : RE K φ n Hf en σ) (r : RV K φ n Hf x v) : RE K φ n Hf (en.set i (some x)) (σ.set i (some v)) := by
  refine ⟨by rw [List.length_set, List.length_set]; exact h.1, fun j y e => ?_⟩
  by_cases ij : i = j
  · subst ij
    have li : i < en.length := by
      have := (List.getElem?_eq_some_iff.mp e).1
      rwa [List.length_set] at this
    rw [List.getElem?_set_self li] at e
    cases e
    exact ⟨v, List.getElem?_set_self (h.1 ▸ li), r⟩
  · rw [List.getElem?_set_ne ij] at e
    rw [List.getElem?_set_ne ij]
    exact h.2 j y e
theorem RE.wipe {K : PySem.W.Frag} {φ : Nat → Addr} {Hf : Hp} {n : Nat} {en : Slots} {σ : L2.St} (h : RE K φ n Hf en σ) : ∀ vs : List Nat, RE K φ n Hf (wipeE en vs) (L2.wipe σ vs)
  | [] => h
  | v :: vs => by
    have ih := RE.wipe h vs
    refine ⟨by unfold wipeE L2.wipe; rw [List.length_set, List.length_set]; exact ih.1, fun j y e => ?_⟩
    unfold wipeE at e
    unfold L2.wipe
    by_cases ij : v = j
    · subst ij
      by_cases li : v < (wipeE en vs).length
      · rw [List.getElem?_set_self li] at e; cases e
      · rw [List.getElem?_eq_none (by simpa using li)] at e; cases e
    · rw [List.getElem?_set_ne ij] at e
      rw [List.getElem?_set_ne ij]
      exact ih.2 j y e

/-! ### outcomes -/
/-- what is wanted of an exception: its class's number, its fields' dict -/
def XR (K : PySem.W.Frag) (φ : Nat → Addr) (n : Nat) (Hf : Hp) (fs : List (Str × Val)) (d : Option Addr) (H : Hp) : Prop :=
  (fs = [] ∧ d = none) ∨ ∃ a xs, d = some a ∧ H a = some (.xd xs) ∧ Paired (fun (p : Str × Val) (q : Str × V) => p.1 = q.1 ∧ RV K φ n Hf p.2 q.2) fs xs
abbrev XW := Nat → Option Addr → Hp → Prop
abbrev KT (α : Type) := α → Sto → (Nat → Addr) → Hp → Hp → Prop
def Out {α : Type} (K : PySem.W.Frag) (F : Hp) (W : XW) (φ : Nat → Addr) (Hf : Hp) (n : Nat) (r : R α) (k : KT α) : Prop :=
  match r with
  | .ok a st' => ∀ φ' Hf' H', Up φ Hf n φ' Hf' st'.length → RS K φ' Hf' F st' H' → k a st' φ' Hf' H'
  | .ex c fs st' => ∀ φ' Hf' H' d, Up φ Hf n φ' Hf' st'.length → RS K φ' Hf' F st' H' → XR K φ' st'.length Hf' fs d H' → W c d H'
  | .no => False
section
variable {α β : Type} {K : PySem.W.Frag} {F : Hp} {W : XW} {φ φ1 : Nat → Addr} {Hf Hf1 : Hp} {n n1 : Nat}
theorem Out.from (u : Up φ Hf n φ1 Hf1 n1) : ∀ {r : R α} {k : KT α}, Out K F W φ Hf n r k → Out K F W φ1 Hf1 n1 r k
  | .ok _ _, _, h => fun φ' Hf' H' u' rs => h φ' Hf' H' (u.trans u') rs
  | .ex _ _ _, _, h => fun φ' Hf' H' d u' rs x => h φ' Hf' H' d (u.trans u') rs x
  | .no, _, h => h
theorem Out.mono : ∀ {r : R α} {k k' : KT α}, Out K F W φ Hf n r k → (∀ a st' φ' Hf' H', Up φ Hf n φ' Hf' st'.length → RS K φ' Hf' F st' H' → k a st' φ' Hf' H' → k' a st' φ' Hf' H') → Out K F W φ Hf n r k'
  | .ok _ _, _, _, h, m => fun φ' Hf' H' u rs => m _ _ _ _ _ u rs (h φ' Hf' H' u rs)
  | .ex _ _ _, _, _, h, _ => h
  | .no, _, _, h, _ => h
theorem Out.bind : ∀ {r : R α} {f : α → Sto → R β} {k : KT β}, Out K F W φ Hf n (r.bind f) k → Out K F W φ Hf n r fun a st1 φ1 Hf1 H1 => Out K F W φ1 Hf1 st1.length (f a st1) k
  | .ok _ _, _, _, h => fun φ' Hf' H' u rs => h.from u
  | .ex _ _ _, _, _, h => h
  | .no, _, _, h => h
theorem Out.here {a : α} {st : Sto} {k : KT α} {H : Hp} (h : Out K F W φ Hf st.length (.ok a st) k) (rs : RS K φ Hf F st H) : k a st φ Hf H := h φ Hf H Up.refl rs
theorem Out.ofO {o : Option α} {st : Sto} {k : KT α} (h : Out K F W φ Hf n (R.ofO o st) k) : ∃ a, o = some a ∧ Out K F W φ Hf n (.ok a st) k := by
  cases o with
  | none => exact h.elim
  | some a => exact ⟨a, rfl, h⟩
end
end Ev
set_option Elab.async false
set_option linter.all false
set_option maxRecDepth 100000
/-! Ev3: operators, by values. -/
namespace Ev
open PySem PySem.Spec PyProof.Rows L2

def kQ (K : PySem.W.Frag) (Q : VK) : KT Val := fun v st' φ' Hf' H' => ∀ V, RV K φ' st'.length Hf' v V → Q V H'
def kB (Q : Bool → Hp → Prop) : KT Bool := fun b _ _ _ H' => Q b H'
section
variable {K : PySem.W.Frag} {φ : Nat → Addr} {Hf F : Hp} {st : Sto} {H : Hp} {W : XW}
theorem RS.kill (rs : RS K φ Hf F st H) {i : Nat} {c : Cell} {o : HO} (h0 : st[i]? = some c) (hd : c.on = true) (ho : H (φ i) = some o) :
    RS K φ (upd Hf (φ i) o) F (st.set i .dead) H ∧ Up φ Hf st.length φ (upd Hf (φ i) o) (st.set i .dead).length := by
  have li : i < st.length := (List.getElem?_eq_some_iff.mp h0).1
  obtain ⟨o0, e0, _, z1, z2⟩ := rs.cell i c h0 hd
  have u : Up φ Hf st.length φ (upd Hf (φ i) o) (st.set i .dead).length := by
    refine ⟨by rw [List.length_set]; exact Nat.le_refl _, fun _ _ => rfl, fun a x h => ?_⟩
    rw [upd_ne (ne_of_none h z1)]
    exact h
  have lv : ∀ j x, (st.set i .dead)[j]? = some x → x.on = true → st[j]? = some x ∧ i ≠ j := fun j x h1 h2 => by
    by_cases e : i = j
    · subst e
      rw [List.getElem?_set_self li] at h1
      cases h1
      cases h2
    · rw [List.getElem?_set_ne e] at h1
      exact ⟨h1, e⟩
  refine ⟨⟨fun a x h => ?_, rs.fr, fun a x h => ?_, fun j x h1 h2 => ?_, fun a b ⟨x, ha, ha'⟩ ⟨y, hb, hb'⟩ e => rs.inj a b ⟨x, (lv a x ha ha').1, ha'⟩ ⟨y, (lv b y hb hb').1, hb'⟩ e, (rs.scr.up (n' := st.length) ⟨Nat.le_refl _, fun _ _ => rfl, u.up⟩).set (.inr rfl)⟩, u⟩
  · by_cases e : a = φ i
    · subst e; rw [upd_same] at h; cases h; exact ho
    · rw [upd_ne e] at h; exact rs.sub _ _ h
  · rw [upd_ne (ne_of_none h z2)]
    exact rs.dis _ _ h
  · obtain ⟨k1, k2⟩ := lv j x h1 h2
    obtain ⟨ob, e1, ro, y1, y2⟩ := rs.cell j x k1 h2
    have ne : φ j ≠ φ i := fun z => k2 (rs.inj i j ⟨c, h0, hd⟩ ⟨x, k1, h2⟩ z.symm)
    exact ⟨ob, e1, ro.up u, by rw [upd_ne ne]; exact y1, y2⟩
theorem frzAll_rep {f : Val → Sto → Option (D × Sto)} (hf : ∀ {x : Val} {st : Sto} {Hf : Hp} {d : D} {st' : Sto} {v : V}, RS K φ Hf F st H → RV K φ st.length Hf x v → f x st = some (d, st') → ∃ Hf', RS K φ Hf' F st' H ∧ Up φ Hf st.length φ Hf' st'.length ∧ Dq K Hf' v d) :
    ∀ {xs : List Val} {st : Sto} {Hf : Hp} {ds : List D} {st' : Sto} {vs : List V}, RS K φ Hf F st H → RVs K φ st.length Hf xs vs → frzAll f xs st = some (ds, st') → ∃ Hf', RS K φ Hf' F st' H ∧ Up φ Hf st.length φ Hf' st'.length ∧ DqAll K Hf' vs ds
  | [], st, Hf, ds, st', vs, rs, rv, h => by
    cases rv
    cases h
    exact ⟨Hf, rs, Up.refl, .nil⟩
  | x :: xs, st, Hf, ds, st', _, rs, rv, h => by
    cases rv with
    | cons r1 r2 =>
      simp only [frzAll] at h
      split at h
      · rename_i d st1 e1
        split at h
        · rename_i ds2 st2 e2
          cases h
          obtain ⟨Hf1, rs1, u1, q1⟩ := hf rs r1 e1
          obtain ⟨Hf2, rs2, u2, q2⟩ := frzAll_rep hf rs1 (RVs.up r2 u1) e2
          exact ⟨Hf2, rs2, u1.trans u2, .cons (Dq.mono u2.up _ q1) q2⟩
        · cases h
      · cases h
theorem frz_rep : ∀ (n : Nat) {x : Val} {st : Sto} {Hf : Hp} {d : D} {st' : Sto} {v : V}, RS K φ Hf F st H → RV K φ st.length Hf x v → frz n x st = some (d, st') → ∃ Hf', RS K φ Hf' F st' H ∧ Up φ Hf st.length φ Hf' st'.length ∧ Dq K Hf' v d
  | n, .d d, st, Hf, d', st', v, rs, rv, h => by
    unfold frz at h
    cases h
    exact ⟨Hf, rs, Up.refl, rv⟩
  | 0, .ref _, _, _, _, _, _, _, _, h => by cases h
  | n + 1, .ref i, st, Hf, d, st', v, rs, rv, h => by
    simp only [frz] at h
    split at h
    · rename_i xs e
      split at h
      · rename_i ds st1 e1
        cases h
        obtain ⟨hi, rfl⟩ := rv
        obtain ⟨o, e2, ⟨vs, rfl, r⟩, _⟩ := rs.cell i _ e rfl
        obtain ⟨rs1, u1⟩ := rs.kill e rfl e2
        obtain ⟨Hf2, rs2, u2, q2⟩ := frzAll_rep (fun a b c => frz_rep n a b c) rs1 (RVs.up r u1) e1
        exact ⟨Hf2, rs2, u1.trans u2, .lst (u2.up _ _ upd_same) q2⟩
      · cases h
    · cases h
theorem mkL_fin {r : Bool} {xs : List Val} {vs : List V} {Q : VK} (rs : RS K φ Hf F st H) (rv : RVs K φ st.length Hf xs vs) (o : Out K F W φ Hf st.length (mkL r xs st) (kQ K Q)) :
    vs.length ≤ sizeLine ∧ ∀ p, H p = none → Q (.ref p) (upd H p (.lst vs)) := by
  unfold mkL at o
  by_cases hl : xs.length ≤ sizeLine
  · rw [if_pos hl] at o
    refine ⟨by rw [← rv.length]; exact hl, fun p hp => ?_⟩
    cases r with
    | true =>
      have e := rs.push (c := .lst xs) (o := .lst vs) hp rfl ⟨vs, rfl, RVs.up rv ⟨Nat.le_succ _, fun i h => ext_lt h, fun _ _ h => h⟩⟩
      exact o _ _ _ e.2 e.1 _ ⟨by rw [List.length_append]; exact Nat.lt_succ_self _, by rw [ext_same]⟩
    | false =>
      rw [if_neg (by decide)] at o
      split at o
      · rename_i ds st1 hd
        obtain ⟨Hf1, rs1, u1, q1⟩ := frzAll_rep (fun a b c => frz_rep 8 a b c) rs rv hd
        have e := rs1.lay (o := .lst vs) hp
        exact o _ _ _ (u1.trans e.2) e.1 _ (.lst upd_same (Dq.monoAll e.2.up ds q1))
      · exact o.elim
  · rw [if_neg hl] at o
    exact o.elim
theorem mkT_fin {xs : List Val} {vs : List V} {Q : VK} (rs : RS K φ Hf F st H) (rv : RVs K φ st.length Hf xs vs) (o : Out K F W φ Hf st.length (mkT xs st) (kQ K Q)) :
    vs.length ≤ sizeLine ∧ ∀ p, H p = none → Q (.ref p) (upd H p (.tup vs)) := by
  unfold mkT at o
  by_cases hl : xs.length ≤ sizeLine
  · rw [if_pos hl] at o
    refine ⟨by rw [← rv.length]; exact hl, fun p hp => ?_⟩
    split at o
    · rename_i ds st1 hd
      obtain ⟨Hf1, rs1, u1, q1⟩ := frzAll_rep (fun a b c => frz_rep 8 a b c) rs rv hd
      have e := rs1.lay (o := .tup vs) hp
      exact o _ _ _ (u1.trans e.2) e.1 _ (.tup (.of upd_same) (Dq.monoAll e.2.up ds q1))
    · exact o.elim
  · rw [if_neg hl] at o
    exact o.elim
/-- a tuple that stands already -/
theorem mkT_same {xs : List Val} {vs : List V} {Q : VK} {a : Addr} (rs : RS K φ Hf F st H) (rv : RVs K φ st.length Hf xs vs) (ha : SqT K Hf a vs) (o : Out K F W φ Hf st.length (mkT xs st) (kQ K Q)) : Q (.ref a) H := by
  unfold mkT at o
  by_cases hl : xs.length ≤ sizeLine
  · rw [if_pos hl] at o
    split at o
    · rename_i ds st1 hd
      obtain ⟨Hf1, rs1, u1, q1⟩ := frzAll_rep (fun a b c => frz_rep 8 a b c) rs rv hd
      exact (o.from u1).here rs1 _ (.tup (SqT.mono ha u1.up) q1)
    · exact o.elim
  · rw [if_neg hl] at o
    exact o.elim
theorem lsOf_rep {a : Val} {x : V} {xs : List Val} (rs : RS K φ Hf F st H) (h : lsOf a st = some xs) (rv : RV K φ st.length Hf a x) : ∃ p vs, x = .ref p ∧ H p = some (.lst vs) ∧ RVs K φ st.length Hf xs vs := by
  cases a with
  | d d =>
    cases d with
    | list ds =>
      cases h
      cases rv with
      | lst h1 h2 => exact ⟨_, _, rfl, rs.sub _ _ h1, RVs.to_dats h2⟩
    | _ => cases h
  | ref i =>
    obtain ⟨hi, rfl⟩ := rv
    simp only [lsOf] at h
    split at h
    · rename_i ys e
      cases h
      obtain ⟨o, e1, ⟨vs, rfl, r⟩, _⟩ := rs.cell i _ e rfl
      exact ⟨_, vs, rfl, e1, r⟩
    · cases h
theorem seqOf_rep {a : Val} {x : V} {xs : List Val} (rs : RS K φ Hf F st H) (h : seqOf a st = some xs) (rv : RV K φ st.length Hf a x) :
    ∃ p vs, x = .ref p ∧ (H p = some (.lst vs) ∨ SqT K H p vs) ∧ RVs K φ st.length Hf xs vs := by
  have alt : ∀ (b : Val), RV K φ st.length Hf b x → lsOf b st = some xs → ∃ p vs, x = .ref p ∧ (H p = some (.lst vs) ∨ SqT K H p vs) ∧ RVs K φ st.length Hf xs vs := fun b r h => by
    obtain ⟨p, vs, e, h1, h2⟩ := lsOf_rep rs h r
    exact ⟨p, vs, e, .inl h1, h2⟩
  cases a with
  | d d =>
    cases d with
    | tuple ds =>
      cases h
      cases rv with
      | tup h1 h2 => exact ⟨_, _, rfl, .inr (SqT.mono h1 rs.sub), RVs.to_dats h2⟩
    | _ => exact alt _ rv h
  | ref i => exact alt _ rv h
theorem dvAll_rep {P : Nat → Val → D → Prop} {f : Val → Option D} : ∀ {xs : List Val} {ds : List D} {vs : List V}, dvAll f xs = some ds → RVs K φ st.length Hf xs vs → (∀ a x d, f a = some d → RV K φ st.length Hf a x → Dp K H x d) → DpAll K H vs ds
  | [], _, _, e, h, _ => by
    cases h
    cases e
    exact .nil
  | x :: xs, ds, _, e, h, k => by
    cases h with
    | cons h1 h2 =>
      simp only [dvAll] at e
      split at e
      · rename_i d es e1 e2
        cases e
        exact .cons (k _ _ _ e1 h1) (dvAll_rep (P := P) e2 h2 k)
      · cases e
theorem dv_rep (rs : RS K φ Hf F st H) : ∀ (n : Nat) {a : Val} {x : V} {d : D}, dv n a st = some d → RV K φ st.length Hf a x → Dp K H x d
  | _, .d y, x, d, h, rv => by
    have e : some y = some d := by
      revert h
      cases ‹Nat› <;> exact fun h => h
    cases e
    exact Dp.mono' rs.sub (Dq.dp _ rv)
  | 0, .ref _, _, _, h, _ => by cases h
  | n + 1, .ref i, x, d, h, rv => by
    obtain ⟨hi, rfl⟩ := rv
    simp only [dv] at h
    split at h
    · rename_i ys e
      obtain ⟨es, e1, rfl⟩ := Option.map_eq_some_iff.mp h
      obtain ⟨o, e2, ⟨vs, rfl, r⟩, _⟩ := rs.cell i _ e rfl
      exact .lst (.of e2) (dvAll_rep (P := fun _ _ _ => True) e1 r fun a y d h1 h2 => dv_rep rs n h1 h2)
    · cases h
end
/-! ### operators -/
def r2 (K : PySem.W.Frag) (f : Val → Val → Sto → R Val) : R2 := fun x y H Q => ∃ a b st φ Hf F W, RS K φ Hf F st H ∧ RV K φ st.length Hf a x ∧ RV K φ st.length Hf b y ∧ Out K F W φ Hf st.length (f a b st) (kQ K Q)
def opOf : Bop → Operator
  | .add => .Add
  | .sub => .Sub
  | .mul => .Mult
  | .fdiv => .FloorDiv
  | .mod => .Mod
  | .pow => .Pow
  | .shl => .LShift
  | .shr => .RShift
  | .band => .BitAnd
  | .bor => .BitOr
theorem small_of {i : Int} (h : smallI i = true) : -(2 ^ 64) < i ∧ i < 2 ^ 64 := by
  unfold smallI at h
  rw [Bool.and_eq_true, decide_eq_true_eq, decide_eq_true_eq] at h
  exact h
theorem op_int {X : Cx} (o : Bop) {i j k : Int} (h : binI o i j = some k) {pins : List (Addr × Obj)} {s : Shared} {σ : L2.St} {H : Hp} {v u : Value} {Q : VK} (I : Inv X pins σ H s) (rx : RelV (.int i) v) (ry : RelV (.int j) u) (q : Q (.int k) H) :
    wpAny (model X.prog X.w) X.A (binaryOp (opOf o) v u) (EP X pins σ Q) X.xe s := by
  cases o with
  | add => cases h; exact op_add pins s σ H _ _ v u Q I rx ry ⟨i, j, rfl, rfl, q⟩
  | sub => cases h; exact op_sub pins s σ H _ _ v u Q I rx ry ⟨i, j, rfl, rfl, q⟩
  | mul =>
    simp only [binI] at h
    split at h
    · rename_i hm
      cases h
      unfold mulOk at hm
      rw [Bool.or_eq_true, Bool.or_eq_true, Bool.and_eq_true] at hm
      rcases hm with (hm | hm) | hm
      · exact op_mul pins s σ H _ _ v u Q I rx ry ⟨i, j, rfl, rfl, .inl (small_of hm), q⟩
      · exact op_mul pins s σ H _ _ v u Q I rx ry ⟨i, j, rfl, rfl, .inr (small_of hm), q⟩
      · exact op_mulW pins s σ H _ _ v u Q I rx ry ⟨i, j, rfl, rfl, wide_mul (of_decide_eq_true hm.1) (of_decide_eq_true hm.2) (by decide) (by decide) (by decide), q⟩
    · cases h
  | fdiv =>
    simp only [binI] at h
    split at h
    · rename_i hm
      cases h
      rcases hm.2 with h2 | h2
      · exact op_fdiv pins s σ H _ _ v u Q I rx ry ⟨i, j, rfl, rfl, ⟨hm.1, h2⟩, q⟩
      · exact op_fdivW pins s σ H _ _ v u Q I rx ry ⟨i, j, rfl, rfl, wide_div hm.1 (of_decide_eq_true h2) (by decide) (by decide), q⟩
    · cases h
  | mod =>
    simp only [binI] at h
    split at h
    · rename_i hm
      cases h
      exact op_mod pins s σ H _ _ v u Q I rx ry ⟨i, j, rfl, rfl, hm, q⟩
    · cases h
  | pow =>
    simp only [binI] at h
    split at h
    · rename_i hm
      cases h
      exact op_pow pins s σ H _ _ v u Q I rx ry ⟨i, j, rfl, rfl, hm, q⟩
    · cases h
  | shl =>
    simp only [binI] at h
    split at h
    · rename_i hm
      cases h
      exact op_shl pins s σ H _ _ v u Q I rx ry ⟨i, j, rfl, rfl, hm, q⟩
    · cases h
  | shr =>
    simp only [binI] at h
    split at h
    · rename_i hm
      cases h
      exact op_shr pins s σ H _ _ v u Q I rx ry ⟨i, j, rfl, rfl, hm, q⟩
    · cases h
  | band => cases h; exact op_and pins s σ H _ _ v u Q I rx ry ⟨i, j, rfl, rfl, q⟩
  | bor => cases h; exact op_or pins s σ H _ _ v u Q I rx ry ⟨i, j, rfl, rfl, q⟩
theorem repL_eq : ∀ (xs : List Val) (n : Nat), repL xs n = (List.replicate n xs).flatten
  | _, 0 => rfl
  | xs, n + 1 => by
    rw [List.replicate_succ, List.flatten_cons, ← repL_eq xs n]
    rfl
theorem pairApp {α β : Type} {P : α → β → Prop} : ∀ {xs xs' : List α} {ys ys' : List β}, Paired P xs ys → Paired P xs' ys' → Paired P (xs ++ xs') (ys ++ ys')
  | _, _, _, _, .nil, h => h
  | _, _, _, _, .cons r t, h => .cons r (pairApp t h)
theorem paired_rep {α β : Type} {P : α → β → Prop} {xs : List α} {ys : List β} (h : Paired P xs ys) : ∀ n : Nat, Paired P (List.replicate n xs).flatten (List.replicate n ys).flatten
  | 0 => .nil
  | n + 1 => by
    rw [List.replicate_succ, List.flatten_cons, List.replicate_succ, List.flatten_cons]
    exact pairApp h (paired_rep h n)
theorem op_bin {X : Cx} (r : Bool) (o : Bop) : OpR X (binaryOp (opOf o)) (r2 X.K (binV r o)) := by
  intro pins s σ H x y v u Q I rx ry h
  obtain ⟨a, b, st, φ, Hf, F, W, rs, ra, rb, out⟩ := h
  unfold binV at out
  split at out
  · rename_i xs e
    obtain ⟨p, vs, rfl, hp, rv⟩ := lsOf_rep rs e ra
    split at out
    · rename_i ys e2
      obtain ⟨p2, us, rfl, hp2, ru⟩ := lsOf_rep rs e2 rb
      obtain ⟨z, q⟩ := mkL_fin rs (pairApp rv ru) out
      rw [List.length_append] at z
      exact op_cat pins s σ H _ _ v u Q I rx ry ⟨p, p2, vs, us, rfl, rfl, hp, hp2, z, q⟩
    · exact out.elim
  · rename_i xs e
    obtain ⟨p, vs, rfl, hp, rv⟩ := lsOf_rep rs e ra
    split at out
    · rename_i n
      split at out
      · rename_i hn
        cases rb
        rw [repL_eq] at out
        obtain ⟨z, q⟩ := mkL_fin rs (paired_rep rv n.toNat) out
        have lv := rv.length
        refine op_rep pins s σ H _ _ v u Q I rx ry ⟨p, n, vs, rfl, rfl, hp, by omega, by omega, ?_, q⟩
        have h1 : vs.length * n.toNat ≤ 100 * 100000 := Nat.mul_le_mul (by omega) (by omega)
        exact Nat.le_trans h1 (by decide)
      · exact out.elim
    · exact out.elim
  · exact out.elim
  · split at out
    · rename_i x' y' _
      obtain ⟨d0, e0, out⟩ := out.ofO
      obtain ⟨d, hb, rfl⟩ := Option.map_eq_some_iff.mp e0
      have q := out.here rs
      unfold binD at hb
      split at hb
      · obtain ⟨k, hk, rfl⟩ := Option.map_eq_some_iff.mp hb
        cases ra
        cases rb
        exact op_int _ hk I rx ry (q _ (.int _))
      · split at hb
        · split at hb
          · rename_i xs ys hz
            cases hb
            cases ra with
            | tup h1 h2 =>
              cases rb with
              | tup h3 h4 =>
                rename_i pa va pb vb
                have l1 := h2.length
                have l2 := h4.length
                refine op_catA pins s σ H _ _ v u Q I rx ry ⟨pa, pb, va, vb, rfl, rfl, SqT.mono h1 rs.sub, SqT.mono h3 rs.sub, by omega, fun e => ?_, fun _ e => ?_, fun _ _ p hp => ?_⟩
                · subst e
                  cases h2
                  exact q _ (.tup h3 h4)
                · subst e
                  cases h4
                  rw [List.append_nil] at q
                  exact q _ (.tup h1 h2)
                · have e := rs.lay (o := .tup (va ++ vb)) hp
                  exact out _ _ _ e.2 e.1 _ (.tup (.of upd_same) (Dq.monoAll e.2.up _ (h2.append h4)))
          · cases hb
        · cases hb
      · split at hb
        · split at hb
          · rename_i xs ys hz
            cases hb
            cases ra
            cases rb
            exact op_add_str pins s σ H _ _ v u Q I rx ry ⟨_, _, rfl, rfl, hz, q _ (.str _)⟩
          · cases hb
        · cases hb
      · cases hb
    · exact out.elim
end Ev
set_option Elab.async false
set_option linter.all false
set_option maxRecDepth 100000
/-! Ev4: comparisons, subscripts, truth, by values. -/
namespace Ev
open PySem PySem.Spec PyProof.Rows L2

theorem canAll_of {ds : List D} (h : SeqAt.shaped (.tuple ds) = true) : PyData.canLayAll0 ds = true := SeqAt.canLay_of_shaped h
theorem depthAll_of {ds : List D} (h : SeqAt.shaped (.tuple ds) = true) : PyData.depthAll ds ≤ 64 := Nat.le_of_succ_le (SeqAt.depth_of_shaped h)
def copOf : Cop → CmpOp
  | .eq => .Eq
  | .ne => .NotEq
  | .lt => .Lt
  | .le => .LtE
  | .gt => .Gt
  | .ge => .GtE
  | .inn => .In
  | .nin => .NotIn
section
variable {X : Cx} {pins : List (Addr × Obj)} {s : Shared} {σ : L2.St} {H : Hp} {v u : Value} {Q : VK}
theorem op_inT (hu : X.A.units + 65 < cLine) {x y : V} {d : D} {ds : List D} (I : Inv X pins σ H s) (rx : RelV x v) (ry : RelV y u) (hd : Dp X.K H x d) (he : Dp X.K H y (.tuple ds)) (sd : SeqAt.shaped d = true) (se : SeqAt.shaped (.tuple ds) = true)
    (q : Q (.bl (ds.any fun z => PyData.eqv z d)) H) : wpAny (model X.prog X.w) X.A (compareOp .In v u) (EP X pins σ Q) X.xe s := by
  obtain ⟨as, r1⟩ := Dp.reads I d x v hd rx
  obtain ⟨bs, r2⟩ := Dp.reads I (.tuple ds) y u he ry
  exact SeqAt.in_tuple_reads r2 r1 (canAll_of se) (SeqAt.canLay_of_shaped sd) (room_in_shaped sd hu) ⟨.bl _, H, I, rfl, q⟩
theorem op_notInT (hu : X.A.units + 65 < cLine) {x y : V} {d : D} {ds : List D} (I : Inv X pins σ H s) (rx : RelV x v) (ry : RelV y u) (hd : Dp X.K H x d) (he : Dp X.K H y (.tuple ds)) (sd : SeqAt.shaped d = true) (se : SeqAt.shaped (.tuple ds) = true)
    (q : Q (.bl (!ds.any fun z => PyData.eqv z d)) H) : wpAny (model X.prog X.w) X.A (compareOp .NotIn v u) (EP X pins σ Q) X.xe s := by
  obtain ⟨as, r1⟩ := Dp.reads I d x v hd rx
  obtain ⟨bs, r2⟩ := Dp.reads I (.tuple ds) y u he ry
  exact SeqAt.notIn_tuple_reads r2 r1 (canAll_of se) (SeqAt.canLay_of_shaped sd) (room_in_shaped sd hu) ⟨.bl _, H, I, rfl, q⟩
theorem dec_str' {a b : Str} : decide (V.str a = V.str b) = decide (a = b) := by
  by_cases h : a = b
  · subst h; simp
  · rw [decide_eq_false h, decide_eq_false]; intro z; cases z; exact h rfl
theorem op_cmpD (hu : X.A.units + 65 < cLine) {o : Cop} {x y : V} {d e : D} {k : Bool} (h : cmpD o d e = some k) (I : Inv X pins σ H s) (rx : RelV x v) (ry : RelV y u) (hd : Dp X.K H x d) (he : Dp X.K H y e) (q : Q (.bl k) H) :
    wpAny (model X.prog X.w) X.A (compareOp (copOf o) v u) (EP X pins σ Q) X.xe s := by
  have hu64 : X.A.units + 64 < cLine := by omega
  cases o with
  | eq =>
    simp only [cmpD] at h
    split at h
    · cases h
      cases hd
      cases he
      exact op_eq pins s σ H _ _ v u Q I rx ry ⟨rfl, by rw [dec_str']; exact q⟩
    split at h
    · rename_i hs
      cases h
      rw [Bool.and_eq_true] at hs
      exact op_eqD hu64 pins s σ H x y v u Q I rx ry ⟨d, e, hd, he, hs.1, hs.2, q⟩
    · cases h
  | ne =>
    simp only [cmpD] at h
    split at h
    · cases h
      cases hd
      cases he
      exact op_ne pins s σ H _ _ v u Q I rx ry ⟨rfl, by rw [dec_str']; exact q⟩
    split at h
    · rename_i hs
      cases h
      rw [Bool.and_eq_true] at hs
      exact op_neD hu64 pins s σ H x y v u Q I rx ry ⟨d, e, hd, he, hs.1, hs.2, q⟩
    · cases h
  | lt =>
    simp only [cmpD] at h
    split at h
    · cases h
      cases hd
      cases he
      exact op_lt pins s σ H _ _ v u Q I rx ry ⟨_, _, rfl, rfl, q⟩
    · cases h
  | le =>
    simp only [cmpD] at h
    split at h
    · cases h
      cases hd
      cases he
      exact op_le pins s σ H _ _ v u Q I rx ry ⟨_, _, rfl, rfl, q⟩
    · cases h
  | gt =>
    simp only [cmpD] at h
    split at h
    · cases h
      cases hd
      cases he
      exact op_gt pins s σ H _ _ v u Q I rx ry ⟨_, _, rfl, rfl, q⟩
    · cases h
  | ge =>
    simp only [cmpD] at h
    split at h
    · cases h
      cases hd
      cases he
      exact op_ge pins s σ H _ _ v u Q I rx ry ⟨_, _, rfl, rfl, q⟩
    · cases h
  | inn =>
    simp only [cmpD] at h
    split at h
    · split at h
      · rename_i hs
        cases h
        rw [Bool.and_eq_true] at hs
        exact op_inD hu pins s σ H x y v u Q I rx ry ⟨d, _, hd, he, hs.1, hs.2, q⟩
      · cases h
    · split at h
      · rename_i hs
        cases h
        rw [Bool.and_eq_true] at hs
        exact op_inT hu I rx ry hd he hs.1 hs.2 q
      · cases h
    · split at h
      · split at h
        · rename_i c hc
          cases h
          cases hd
          cases he
          exact op_in_sign pins s σ H _ _ v u Q I rx ry ⟨c, _, by rw [← oneCh_eq hc], rfl, q⟩
        · cases h
      · cases h
    · cases h
  | nin =>
    simp only [cmpD] at h
    split at h
    · split at h
      · rename_i hs
        cases h
        rw [Bool.and_eq_true] at hs
        exact op_notInD hu pins s σ H x y v u Q I rx ry ⟨d, _, hd, he, hs.1, hs.2, q⟩
      · cases h
    · split at h
      · rename_i hs
        cases h
        rw [Bool.and_eq_true] at hs
        exact op_notInT hu I rx ry hd he hs.1 hs.2 q
      · cases h
    · split at h
      · split at h
        · rename_i c hc
          cases h
          cases hd
          cases he
          exact op_notIn_sign pins s σ H _ _ v u Q I rx ry ⟨c, _, by rw [← oneCh_eq hc], rfl, q⟩
        · cases h
      · cases h
    · cases h
end
theorem valK_rep {K : PySem.W.Frag} {φ : Nat → Addr} {n : Nat} {Hf : Hp} (k : Key) : ∀ {kvs : List (Key × Val)} {ks : List (Key × V)}, Paired (fun (p : Key × Val) (q : Key × V) => p.1 = q.1 ∧ RV K φ n Hf p.2 q.2) kvs ks →
    (valK k kvs = none ∧ valV ks k = none) ∨ ∃ x v, valK k kvs = some x ∧ valV ks k = some v ∧ RV K φ n Hf x v
  | _, _, .nil => .inl ⟨rfl, rfl⟩
  | _, _, .cons (a := (j, x)) (b := (j', v)) h t => by
    obtain ⟨e, r⟩ := h
    have e : j = j' := e
    subst e
    by_cases hj : j = k
    · refine .inr ⟨x, v, ?_, valV_pos hj, r⟩
      show (if j = k then some x else _) = _
      rw [if_pos hj]
    · have ih := valK_rep k t
      rw [valV_neg (p := (j, v)) hj]
      show ((if j = k then some x else valK k _) = none ∧ _) ∨ _
      rw [show valK k ((j, x) :: _) = valK k _ from if_neg hj, if_neg hj]
      exact ih
theorem keyOf_rep {K : PySem.W.Frag} {H : Hp} {d : D} {k : Key} {x : V} (h : keyOf d = some k) (r : Dp K H x d) : x = kV k := by
  cases d with
  | int i => cases h; cases r; rfl
  | str i => cases h; cases r; rfl
  | _ => cases h
def rBl (K : PySem.W.Frag) (f : Val → Val → Sto → Option Bool) : R2 := r2 K fun a b st => .ofO ((f a b st).map fun k => .d (.bool k)) st
theorem op_cmpV {X : Cx} (hu : X.A.units + 65 < cLine) (o : Cop) : OpR X (compareOp (copOf o)) (rBl X.K (cmpV o)) := by
  intro pins s σ H x y v u Q I rx ry h
  obtain ⟨a, b, st, φ, Hf, F, W, rs, ra, rb, out⟩ := h
  obtain ⟨z, e0, out⟩ := out.ofO
  obtain ⟨k, hk, rfl⟩ := Option.map_eq_some_iff.mp e0
  have q : Q (.bl k) H := out.here rs _ (.bl _)
  have alt : (match dv 2 a st, dv 2 b st with
      | some a, some b => cmpD o a b
      | _, _ => none) = some k → wpAny (model X.prog X.w) X.A (compareOp (copOf o) v u) (EP X pins σ Q) X.xe s := fun h => by
    split at h
    · rename_i d e h1 h2
      exact op_cmpD hu h I rx ry (dv_rep rs 2 h1 ra) (dv_rep rs 2 h2 rb) q
    · cases h
  have hu1 : X.A.units + 1 < cLine := by omega
  unfold cmpV at hk
  split at hk
  · rename_i i
    split at hk
    · rename_i kvs e
      obtain ⟨hi, rfl⟩ := rb
      cases ry
      obtain ⟨o1, e1, ⟨ks, rfl, r⟩, _⟩ := rs.cell i _ e rfl
      split at hk
      · rename_i d
        obtain ⟨key, h1, rfl⟩ := Option.map_eq_some_iff.mp hk
        have ex := keyOf_rep h1 (Dq.dp _ ra)
        subst ex
        refine d_in hu1 I (DGet.k (k := key) e1) rx fun s' I' => ⟨.bl _, H, I', rfl, ?_⟩
        rcases valK_rep key r with ⟨h2, h3⟩ | ⟨z1, z2, h2, h3, _⟩
        · rw [h2] at q; rw [h3]; exact q
        · rw [h2] at q; rw [h3]; exact q
      · rename_i d
        obtain ⟨key, h1, rfl⟩ := Option.map_eq_some_iff.mp hk
        have ex := keyOf_rep h1 (Dq.dp _ ra)
        subst ex
        refine d_notIn hu1 I (DGet.k (k := key) e1) rx fun s' I' => ⟨.bl _, H, I', rfl, ?_⟩
        rcases valK_rep key r with ⟨h2, h3⟩ | ⟨z1, z2, h2, h3, _⟩
        · rw [h2] at q; rw [h3]; exact q
        · rw [h2] at q; rw [h3]; exact q
      · cases hk
    · exact alt hk
  · exact alt hk
/-! ### subscripts -/
theorem ix_dict {X : Cx} (hu : X.A.units + 1 < cLine) : IxR X (fun x y H Q => ∃ a v, x = .ref a ∧ DGet H a y (some v) ∧ Q v H) := by
  intro value slice pins s σ H x y v u Q I rx ry h hs
  obtain ⟨a, w, rfl, g, q⟩ := h
  cases rx
  have hT := dict_typeIs I g
  unfold subscriptTail
  refine wpAny_bind ?_
  rw [getitemInPython_of_ne hT.not_modules]
  refine wpAny_bind (wpAny_specialOf hT PySem.F.slot_dict_getitem.lookup ?_)
  have fin : wpAny (model X.prog X.w) X.A (subscripted slice false (.ref a) u) (fun r s₃ => wpAny (model X.prog X.w) X.A (letTemporaryGo value (.ref a) r >>= fun _ => pure r) (EP X pins σ Q) X.xe s₃) X.xe s := by
    rw [hs]
    exact wpAny_operating (wpAny_mono (d_getItem hu I g ry fun w' s' I' rw' => (⟨w, H, I', rw', q⟩ : EP X pins σ Q w' s')) (fun r s₃ h₃ => wpAny_bind (wpAny_letTemporaryGo (wpAny_pure h₃))) fun _ _ x => x)
  first
    | exact wpAny_pure (wpAny_bind fin)
    | exact fin
theorem at_pair {α β : Type} {P : α → β → Prop} : ∀ {xs : List α} {ys : List β} {i : Nat} {x : α}, Paired P xs ys → xs[i]? = some x → ∃ y, ys[i]? = some y ∧ P x y
  | _, _, _, _, .nil, e => by simp at e
  | _, _, 0, _, .cons r _, e => by simp at e; subst e; exact ⟨_, rfl, r⟩
  | _, _, i + 1, x, .cons _ t, e => by
    obtain ⟨u, h1, h2⟩ := at_pair (i := i) (x := x) t (by simpa using e)
    exact ⟨u, by simpa using h1, h2⟩
theorem ix_val {X : Cx} (hu : X.A.units + 1 < cLine) : IxR X (r2 X.K fun a b st => .ofO (idxV a b st) st) := by
  intro value slice pins s σ H x y v u Q I rx ry h hs
  obtain ⟨a, b, st, φ, Hf, F, W, rs, ra, rb, out⟩ := h
  obtain ⟨z, e0, out⟩ := out.ofO
  have q : ∀ V, RV X.K φ st.length Hf z V → Q V H := out.here rs
  have dict : ∀ (i : Nat) (kvs : List (Key × Val)) (k : Key), a = .ref i → st[i]? = some (.dK kvs) → valK k kvs = some z → y = kV k →
      wpAny (model X.prog X.w) X.A (subscriptTail value slice v u) (EP X pins σ Q) X.xe s := fun i kvs k ea e hk ey => by
    subst ea ey
    obtain ⟨hi, rfl⟩ := ra
    obtain ⟨o1, e1, ⟨ks, rfl, r⟩, _⟩ := rs.cell i _ e rfl
    rcases valK_rep k r with ⟨h2, h3⟩ | ⟨z1, z2, h2, h3, h4⟩
    · rw [h2] at hk; cases hk
    · rw [h2] at hk
      cases hk
      have g := DGet.k (k := k) e1
      rw [h3] at g
      exact ix_dict hu value slice pins s σ H _ _ v u Q I rx ry ⟨_, z2, rfl, g, q _ h4⟩ hs
  unfold idxV at e0
  split at e0
  · rename_i i
    cases rb
    split at e0
    · rename_i xs hx
      split at e0
      · rename_i k hk
        obtain ⟨p, vs, rfl, hp, rv⟩ := seqOf_rep rs hx ra
        obtain ⟨w, h1, h2⟩ := at_pair rv e0
        have ha : atI vs i = some w := by
          unfold atI
          rw [← rv.length, hk]
          exact h1
        rcases hp with hp | hp
        · exact ix_seq value slice pins s σ H _ _ v u Q I rx ry (.inl ⟨p, vs, i, w, rfl, rfl, .of hp, ha, q _ h2⟩) hs
        · exact ix_seq value slice pins s σ H _ _ v u Q I rx ry (.inr (.inl ⟨p, vs, i, w, rfl, rfl, hp, ha, q _ h2⟩)) hs
      · cases e0
    · split at e0
      · split at e0
        · rename_i e
          exact dict _ _ (.inl i) rfl e e0 rfl
        · cases e0
      · split at e0
        · rename_i hy
          split at e0
          · rename_i c hc
            cases e0
            cases ra
            exact ix_seq value slice pins s σ H _ _ v u Q I rx ry (.inr (.inr ⟨_, i, c, rfl, rfl, hy, hc, q _ (.str _)⟩)) hs
          · cases e0
        · cases e0
      · cases e0
  · rename_i k
    cases rb
    split at e0
    · split at e0
      · rename_i e
        exact dict _ _ (.inr k) rfl e e0 rfl
      · cases e0
    · cases e0
  · cases e0
end Ev
set_option Elab.async false
set_option linter.all false
set_option maxRecDepth 100000
/-! Ev5: truth, slices, stores, by values. -/
namespace Ev
open PySem PySem.Spec PyProof.Rows L2

theorem pairDrop {α β : Type} {P : α → β → Prop} : ∀ {xs : List α} {ys : List β} (n : Nat), Paired P xs ys → Paired P (xs.drop n) (ys.drop n)
  | _, _, 0, r => r
  | _, _, _ + 1, .nil => .nil
  | _, _, n + 1, .cons _ t => pairDrop n t
theorem pairTake {α β : Type} {P : α → β → Prop} : ∀ {xs : List α} {ys : List β} (n : Nat), Paired P xs ys → Paired P (xs.take n) (ys.take n)
  | _, _, 0, _ => .nil
  | _, _, _ + 1, .nil => .nil
  | _, _, n + 1, .cons r t => .cons r (pairTake n t)
theorem pairRev {α β : Type} {P : α → β → Prop} : ∀ {xs : List α} {ys : List β}, Paired P xs ys → Paired P xs.reverse ys.reverse
  | _, _, .nil => .nil
  | _, _, .cons r t => by
    rw [List.reverse_cons, List.reverse_cons]
    exact pairApp (pairRev t) (.cons r .nil)
theorem pairSet {α β : Type} {P : α → β → Prop} {x : α} {y : β} (r : P x y) : ∀ {xs : List α} {ys : List β} (n : Nat), Paired P xs ys → Paired P (xs.set n x) (ys.set n y)
  | _, _, _, .nil => .nil
  | _, _, 0, .cons _ t => .cons r t
  | _, _, n + 1, .cons q t => .cons q (pairSet r n t)
theorem pairErase {α β : Type} {P : α → β → Prop} : ∀ {xs : List α} {ys : List β} (n : Nat), Paired P xs ys → Paired P (xs.eraseIdx n) (ys.eraseIdx n)
  | _, _, _, .nil => .nil
  | _, _, 0, .cons _ t => t
  | _, _, n + 1, .cons q t => .cons q (pairErase n t)
theorem pairDropLast {α β : Type} {P : α → β → Prop} {xs : List α} {ys : List β} (r : Paired P xs ys) : Paired P xs.dropLast ys.dropLast := by
  rw [List.dropLast_eq_take, List.dropLast_eq_take, r.length]
  exact pairTake _ r
theorem pairMapD {K : PySem.W.Frag} {φ : Nat → Addr} {n : Nat} {Hf : Hp} {ds : List D} {vs : List V} (h : DqAll K Hf vs ds) : RVs K φ n Hf (ds.map .d) vs := RVs.to_dats h
theorem isEmpty_len {α β : Type} {xs : List α} {ys : List β} (h : ys.length = xs.length) : xs.isEmpty = ys.isEmpty := by
  cases xs <;> cases ys <;> first | rfl | simp at h

/-! ### truth -/
def kTr (K : PySem.W.Frag) (f : Val → Sto → Option Bool) : V → Hp → (Bool → Hp → Prop) → Prop := fun x H Q => ∃ a st φ Hf F b, RS K φ Hf F st H ∧ RV K φ st.length Hf a x ∧ f a st = some b ∧ Q b H
theorem tru_val {X : Cx} : TruR X (kTr X.K truthV) := by
  intro pins s σ H x v Q I rx h
  obtain ⟨a, st, φ, Hf, F, b, rs, ra, e, q⟩ := h
  refine tru_ok pins s σ H x v Q I rx ⟨b, ?_, q⟩
  unfold truthV at e
  split at e
  · rename_i d
    cases d with
    | none => cases ra; cases e; rfl
    | bool k => cases ra; cases e; rfl
    | int i => cases ra; cases e; rfl
    | str y =>
      cases ra
      simp only [truthD] at e
      split at e
      · rename_i hy
        cases e
        exact ⟨hy, rfl⟩
      · cases e
    | list ds =>
      cases e
      cases ra with
      | lst h1 h2 => exact .inl ⟨_, .of (rs.sub _ _ h1), by rw [isEmpty_len h2.length]⟩
    | tuple ds =>
      cases e
      cases ra with
      | tup h1 h2 => exact .inr (.inl ⟨_, SqT.mono h1 rs.sub, by rw [isEmpty_len h2.length]⟩)
    | dict _ => cases e
  · obtain ⟨hi, rfl⟩ := ra
    split at e
    · rename_i xs ec
      cases e
      obtain ⟨o, e1, ⟨vs, rfl, r⟩, _⟩ := rs.cell _ _ ec rfl
      exact .inl ⟨vs, .of e1, by rw [isEmpty_len r.length.symm]⟩
    · rename_i kvs ec
      cases e
      obtain ⟨o, e1, ⟨vs, rfl, r⟩, _⟩ := rs.cell _ _ ec rfl
      exact .inr (.inr ⟨vs, e1, by rw [isEmpty_len r.length.symm]⟩)
    · cases e

/-! ### slices -/
theorem cut_pair {K : PySem.W.Frag} {φ : Nat → Addr} {n : Nat} {Hf : Hp} {xs : List Val} {vs : List V} (r : RVs K φ n Hf xs vs) (lo hi : Option Int) : RVs K φ n Hf (cutE xs lo hi) (cutV vs lo hi) := by
  unfold cutE cutV
  rw [r.length]
  exact pairTake _ (pairDrop _ r)
theorem cut_whole {vs : List V} {lo hi : Option Int} (h : HT.sIx vs.length 0 lo = 0 ∧ HT.sIx vs.length vs.length hi = vs.length) : cutV vs lo hi = vs := by
  unfold cutV
  rw [h.1, h.2, List.drop_zero, Nat.sub_zero, List.take_length]
theorem sl_val {X : Cx} (r : Bool) : SlR X (fun x lo hi H Q => ∃ a st φ Hf F W, RS X.K φ Hf F st H ∧ RV X.K φ st.length Hf a x ∧ Out X.K F W φ Hf st.length (slV r lo hi a st) (kQ X.K Q)) := by
  intro pins s σ H x v vl vu lo hi sl Q I rx hs pl pu h
  obtain ⟨a, st, φ, Hf, F, W, rs, ra, out⟩ := h
  have lst : ∀ xs, lsOf a st = some xs → Out X.K F W φ Hf st.length (mkL r (cutE xs lo hi) st) (kQ X.K Q) →
      ∃ T id, typeLookup (.type T) "__getitem__" = pure (some (.builtin id)) ∧ s.TypeIs v T ∧ wpAny (model X.prog X.w) X.A (getItem v (.ref sl)) (EP X pins σ Q) X.xe s := fun xs e out => by
    obtain ⟨p, vs, rfl, hp, rv⟩ := lsOf_rep rs e ra
    obtain ⟨_, q⟩ := mkL_fin rs (cut_pair rv lo hi) out
    exact sl_list pins s σ H _ v vl vu lo hi sl Q I rx hs pl pu ⟨p, vs, rfl, .of hp, q⟩
  unfold slV at out
  split at out
  · rename_i ds
    cases ra with
    | tup h1 h2 =>
      rename_i p vs
      have rv : RVs X.K φ st.length Hf (ds.map .d) vs := RVs.to_dats h2
      refine sl_tupA pins s σ H _ v vl vu lo hi sl Q I rx hs pl pu ⟨p, vs, rfl, SqT.mono h1 rs.sub, fun hw => ?_, fun hw => ?_⟩
      · have c := cut_pair rv lo hi
        rw [cut_whole hw] at c
        exact mkT_same rs c h1 out
      · exact (mkT_fin rs (cut_pair rv lo hi) out).2
  · rename_i z
    split at out
    · rename_i hz
      cases ra
      exact sl_str pins s σ H _ v vl vu lo hi sl Q I rx hs pl pu ⟨z, rfl, hz, out.here rs _ (.str _)⟩
    · exact out.elim
  · split at out
    · rename_i e
      exact lst _ e out
    · exact out.elim

/-! ### reversed slices -/
section
variable {prog : Program} {w : World} {A : Around} {E : Value → Shared → Prop} {s : Shared}
open PySem.W in
theorem sliceApplied_rev {sl : Addr} {vk : Value} {n : Nat} {Q : Int × Int × Nat → Shared → Prop} (hs : s.heap.IsSliceOf sl .none .none vk) (pk : IsPart vk (some (-1)))
    (h : Q ((n : Int) - 1, -1, n) s) : wpAny (model prog w) A (Builtin.Slice.sliceApplied (.ref sl) (pure (n : Int))) Q E s := by
  obtain ⟨os, hos, hcs, hds⟩ := id hs
  unfold Builtin.Slice.sliceApplied Builtin.Slice.sliceFields
  refine wpAny_bind (wpAny_bind (wpAny_field hos hds (x := .none) rfl (wpAny_bind (wpAny_field hos hds (x := .none) rfl (wpAny_bind (wpAny_field hos hds (x := vk) rfl (wpAny_pure ?_)))))))
  refine wpAny_bind (HT.slicePart_ pk ?_)
  show wpAny _ _ (if ((-1 : Int) == 0) = true then _ else _) _ _ s
  rw [if_neg (by decide)]
  refine wpAny_bind (HT.slicePart_ .none (wpAny_bind (HT.slicePart_ .none (wpAny_bind (wpAny_pure ?_)))))
  show wpAny _ _ (match Builtin.Slice.sliceAdjust none none (-1) (n : Int) with | (lo, hi) => pure (lo, (-1 : Int), Builtin.Slice.slicePlaces lo hi (-1))) _ _ s
  have e : Builtin.Slice.sliceAdjust none none (-1) (n : Int) = ((n : Int) - 1, -1) := by
    unfold Builtin.Slice.sliceAdjust
    rfl
  rw [e]
  have e2 : Builtin.Slice.slicePlaces ((n : Int) - 1) (-1) (-1) = n := by
    unfold Builtin.Slice.slicePlaces
    have h1 : ¬ ((-1 : Int) > 0) := by decide
    simp only [h1, if_false]
    by_cases hn : (n : Int) - 1 > -1
    · rw [if_pos hn]
      have : ((n : Int) - 1 - -1 - 1) / (- -1) = (n : Int) - 1 := by
        rw [show (- -1 : Int) = 1 by decide, Int.ediv_one]
        omega
      rw [this]
      omega
    · rw [if_neg hn]
      omega
  show wpAny _ _ (pure ((n : Int) - 1, (-1 : Int), Builtin.Slice.slicePlaces ((n : Int) - 1) (-1) (-1))) _ _ s
  rw [e2]
  exact wpAny_pure h
theorem filterMap_cong {α β : Type} {f g : α → Option β} : ∀ {l : List α}, (∀ x ∈ l, f x = g x) → l.filterMap f = l.filterMap g
  | [], _ => rfl
  | a :: l, h => by
    rw [List.filterMap_cons, List.filterMap_cons, h a List.mem_cons_self, filterMap_cong fun x hx => h x (List.mem_cons_of_mem _ hx)]
theorem pick_rev (xs : Array Value) : ((List.range xs.size).filterMap fun (m : Nat) => xs[((xs.size : Int) - 1 + (m : Int) * -1).toNat]?).toArray = xs.toList.reverse.toArray := by
  have e : (List.range xs.size).filterMap (fun (m : Nat) => xs[((xs.size : Int) - 1 + (m : Int) * -1).toNat]?) = ((List.range xs.size).map fun k => xs.size - 1 - k).filterMap (xs[·]?) := by
    rw [List.filterMap_map]
    refine filterMap_cong fun m hm => ?_
    have := List.mem_range.mp hm
    show _ = xs[xs.size - 1 - m]?
    rw [show ((xs.size : Int) - 1 + (m : Int) * -1).toNat = xs.size - 1 - m by omega]
  rw [e, PySem.W.krv_range, List.filterMap_reverse, PySem.W.krv_all]
open PySem.W in
theorem getItem_tuple_rev {t sl : Addr} {items : Array Value} {vk : Value} {Q : Value → Shared → Prop} (ht : IsTup s.heap t items) (hs : s.heap.IsSliceOf sl .none .none vk) (pk : IsPart vk (some (-1)))
    (h : Q (.ref s.heap.objs.size) { s with heap := s.heap.push { cls := .type "tuple", data := .seq items.toList.reverse.toArray } }) (hsz : items.size ≤ sizeLine) : wpAny (model prog w) A (getItem (.ref t) (.ref sl)) Q E s := by
  have htake : sizeOk (.seq items.toList.reverse.toArray) := by
    show items.toList.reverse.toArray.size ≤ sizeLine
    rw [List.size_toArray, List.length_reverse, Array.length_toList]
    exact hsz
  obtain ⟨os, hos, hcs, hds⟩ := id hs
  have hTs : s.TypeIs (.ref sl) "slice" := ⟨os, hos, hcs⟩
  unfold getItem
  try with_reducible refine wpAny_holding ?_
  first | refine wpAny_bind (wpAny_pure ?_) | skip
  refine wpAny_bind (wpAny_sequenceKey ht.typeIs (by decide) ?_)
  refine wpAny_bind (wpAny_callSpecial?_slot (name := Str.ofString "__getitem__") ht.typeIs PyProof.Rows.slot_tuple_getitem
    (wpAny_call_entry PyProof.Rows.slot_tuple_getitem ht.typeIs entry_tuple_getitem ?_ (args_tuple_getitem _ _)))
  show wpAny _ _ (Builtin.Tuple.tupleItemsOf (.ref t) >>= _) _ _ s
  refine wpAny_bind (tupleItemsOf_ ht ?_)
  refine wpAny_bind (wpAny_typeOf hTs ?_)
  rw [if_pos (by decide)]
  refine wpAny_bind (sliceApplied_rev hs pk ?_)
  have hno : ¬ ((((items.size : Int) - 1) == 0 && (-1 : Int) == 1 && items.size == items.size) = true) := by
    intro q
    rw [Bool.and_eq_true, Bool.and_eq_true] at q
    exact absurd q.1.2 (by decide)
  show wpAny _ _ (if (((items.size : Int) - 1) == 0 && (-1 : Int) == 1 && items.size == items.size) = true then _ else _) _ _ s
  rw [if_neg hno, pick_rev]
  first
    | exact wpAny_bind (m := Builtin.Tuple.tupleExact _) (wpAny_newObj_type (wpAny_pure ⟨_, rfl, wpAny_pure h⟩) htake)
    | exact wpAny_bind (m := Builtin.Tuple.tupleExact _) (wpAny_newObj_type (wpAny_bind (wpAny_pure (wpAny_pure ⟨_, rfl, wpAny_pure h⟩))) htake)
    | exact wpAny_bind (wpAny_bind (m := Builtin.Tuple.tupleExact _) (wpAny_newObj_type (wpAny_pure (wpAny_pure ⟨_, rfl, wpAny_pure h⟩)) htake))
    | exact wpAny_bind (wpAny_bind (m := Builtin.Tuple.tupleExact _) (wpAny_newObj_type (wpAny_pure ⟨_, rfl, wpAny_pure h⟩) htake))
end
section
variable {X : Cx}
theorem pe_rev {e : Expr} {te : TE} {p2 p3 p4 pos : Pos} {j : Nat} (r : Bool) (he : PE X e te) :
    PE X (.Subscript e (.Slice none none (some (.UnaryOp .USub (.Constant (.int 1) j p3) p4)) p2) pos)
      (fun σ H Q => te σ H fun x H1 => ∃ a st φ Hf F W, RS X.K φ Hf F st H1 ∧ RV X.K φ st.length Hf a x ∧ Out X.K F W φ Hf st.length (revV r a st) (kQ X.K Q)) := by
  refine ⟨fun pins s σ H Q I h => ?_⟩
  refine Subscript_ (thn (he.run pins s σ H _ I h) fun v s1 ⟨x, H1, I1, r1, q1⟩ => ?_)
  obtain ⟨a, st, φ, Hf, F, W, rs, ra, out⟩ := q1
  refine wpAny_Slice ?_
  rw [evalPart_none]
  refine wpAny_pure ?_
  refine wpAny_pure ?_
  rw [evalPart_some]
  refine thn ((pe_un un_neg (pe_int (i := 1))).run pins s1 σ H1 (fun x H' => x = .int (-1) ∧ H' = H1) I1 ⟨1, rfl, rfl, rfl⟩) fun vk s2 ⟨z, H2, I2, rz, ez, eH⟩ => ?_
  subst ez eH
  obtain ⟨tk, rfl⟩ := rz
  have pk : IsPart (.int (-1) tk) (some (-1)) := .int _ _
  have I4 : Inv X pins σ H2 { s2 with heap := s2.heap.push { cls := .type "slice", data := .fields #[.none, .none, .int (-1) tk] } } := I2.kept (t' := s2.toks) fun b ob q => Heap.get?_push_of_some _ q
  have hsl : (s2.heap.push { cls := .type "slice", data := .fields #[.none, .none, .int (-1) tk] }).IsSliceOf s2.heap.objs.size .none .none (.int (-1) tk) := Heap.IsSliceOf.new ..
  have lst : ∀ xs, lsOf a st = some xs → Out X.K F W φ Hf st.length (mkL r xs.reverse st) (kQ X.K Q) →
      wpAny (model X.prog X.w) X.A (subscriptTail e (.Slice none none (some (.UnaryOp .USub (.Constant (.int 1) j p3) p4)) p2) v (.ref s2.heap.objs.size)) (EP X pins σ Q) X.xe { s2 with heap := s2.heap.push { cls := .type "slice", data := .fields #[.none, .none, .int (-1) tk] } } := fun xs ex out => by
    obtain ⟨p, vs, rfl, hp, rv⟩ := lsOf_rep rs ex ra
    obtain ⟨z, q⟩ := mkL_fin rs (pairRev rv) out
    cases r1
    obtain ⟨its, rr, ht, hz⟩ := I4.list (.of hp)
    have hlen := rr.length
    refine tail_any (ops := [.ref p, .ref s2.heap.objs.size]) ht.isList.typeIs slot_list_getitem.lookup ?_ (by with_unfolding_all rfl)
    refine wpAny_getItem_list_slice ht.isList hsl .none .none pk (by decide) ?_ (by rw [List.size_toArray] <;> omega)
    rw [PySem.W.krv_pick]
    refine ⟨.ref _, _, I4.laid (t' := s2.toks) (o := .lst vs.reverse) (fun b ob q => Heap.get?_push_of_some _ q) (Nat.le_refl _) ?_, rfl, q _ (I4.hok.fresh (Nat.le_refl _))⟩
    refine ⟨by rw [List.length_reverse]; exact hz, its.reverse, 0, ?_, Heap.get?_push_size _ rfl⟩
    exact pairRev rr
  unfold revV at out
  split at out
  · rename_i ds
    cases ra with
    | tup h1 h2 =>
      rename_i p vs
      have rv : RVs X.K φ st.length Hf (ds.map .d) vs := RVs.to_dats h2
      obtain ⟨z, q⟩ := mkT_fin rs (pairRev rv) out
      cases r1
      obtain ⟨its, rr, ht, hz⟩ := I4.tuple (SqT.mono h1 rs.sub)
      have hlen := rr.length
      refine tail_any (ops := [.ref p, .ref s2.heap.objs.size]) ht.typeIs PyProof.Rows.slot_tuple_getitem.lookup ?_ (by with_unfolding_all rfl)
      refine getItem_tuple_rev ht hsl pk ?_ (by rw [List.size_toArray] <;> omega)
      refine ⟨.ref _, _, I4.laid (t' := s2.toks) (o := .tup vs.reverse) (fun b ob q => Heap.get?_push_of_some _ q) (Nat.le_refl _) ?_, rfl, q _ (I4.hok.fresh (Nat.le_refl _))⟩
      exact ⟨by rw [List.length_reverse]; exact hz, its.reverse, pairRev rr, IsTup.new _ _⟩
  · split at out
    · rename_i ex
      exact lst _ ex out
    · exact out.elim
end
end Ev
set_option Elab.async false
set_option linter.all false
set_option maxRecDepth 100000
/-! Ev6: built-in calls, methods, stores, by values. -/
namespace Ev
open PySem PySem.Spec PyProof.Rows L2

def kC (K : PySem.W.Frag) (f : List Val → Sto → R Val) : List V → Hp → VK → Prop := fun vs H Q => ∃ as st φ Hf F W, RS K φ Hf F st H ∧ RVs K φ st.length Hf as vs ∧ Out K F W φ Hf st.length (f as st) (kQ K Q)
theorem rv1 {K : PySem.W.Frag} {φ : Nat → Addr} {n : Nat} {Hf : Hp} {a : Val} {vs : List V} (h : RVs K φ n Hf [a] vs) : ∃ v, vs = [v] ∧ RV K φ n Hf a v := by
  cases h with
  | cons r t => cases t; exact ⟨_, rfl, r⟩
theorem rv2 {K : PySem.W.Frag} {φ : Nat → Addr} {n : Nat} {Hf : Hp} {a b : Val} {vs : List V} (h : RVs K φ n Hf [a, b] vs) : ∃ v w, vs = [v, w] ∧ RV K φ n Hf a v ∧ RV K φ n Hf b w := by
  cases h with
  | cons r t =>
    obtain ⟨w, rfl, r2⟩ := rv1 t
    exact ⟨_, _, rfl, r, r2⟩
theorem allInts_rep {K : PySem.W.Frag} {φ : Nat → Addr} {n : Nat} {Hf : Hp} : ∀ {xs : List Val} {ns : List Int} {vs : List V}, allInts xs = some ns → RVs K φ n Hf xs vs → vs = ns.map V.int
  | [], _, _, e, h => by cases h; cases e; rfl
  | .d (.int i) :: xs, ns, _, e, h => by
    cases h with
    | cons h1 h2 =>
      obtain ⟨m, e1, rfl⟩ := Option.map_eq_some_iff.mp (show (allInts xs).map (i :: ·) = some ns from e)
      cases h1
      rw [allInts_rep e1 h2, List.map_cons]
  | .d .none :: _, _, _, e, _ => by cases e
  | .d (.bool _) :: _, _, _, e, _ => by cases e
  | .d (.str _) :: _, _, _, e, _ => by cases e
  | .d (.list _) :: _, _, _, e, _ => by cases e
  | .d (.tuple _) :: _, _, _, e, _ => by cases e
  | .d (.dict _) :: _, _, _, e, _ => by cases e
  | .ref _ :: _, _, _, e, _ => by cases e
theorem allBls_rep {K : PySem.W.Frag} {φ : Nat → Addr} {n : Nat} {Hf : Hp} : ∀ {xs : List Val} {ns : List Bool} {vs : List V}, allBls xs = some ns → RVs K φ n Hf xs vs → vs = ns.map V.bl
  | [], _, _, e, h => by cases h; cases e; rfl
  | .d (.bool i) :: xs, ns, _, e, h => by
    cases h with
    | cons h1 h2 =>
      obtain ⟨m, e1, rfl⟩ := Option.map_eq_some_iff.mp (show (allBls xs).map (i :: ·) = some ns from e)
      cases h1
      rw [allBls_rep e1 h2, List.map_cons]
  | .d .none :: _, _, _, e, _ => by cases e
  | .d (.int _) :: _, _, _, e, _ => by cases e
  | .d (.str _) :: _, _, _, e, _ => by cases e
  | .d (.list _) :: _, _, _, e, _ => by cases e
  | .d (.tuple _) :: _, _, _, e, _ => by cases e
  | .d (.dict _) :: _, _, _, e, _ => by cases e
  | .ref _ :: _, _, _, e, _ => by cases e
theorem maxOf_mem : ∀ (xs : List Int) (m : Int), maxOf xs m ∈ m :: xs ∧ ∀ y ∈ m :: xs, y ≤ maxOf xs m
  | [], m => ⟨by simp [maxOf], fun y h => by simp at h; subst h; exact Int.le_refl _⟩
  | x :: xs, m => by
    unfold maxOf
    by_cases h : x > m
    · rw [if_pos h]
      obtain ⟨h1, h2⟩ := maxOf_mem xs x
      refine ⟨List.mem_cons_of_mem _ h1, fun y hy => ?_⟩
      rcases List.mem_cons.mp hy with rfl | hy
      · exact Int.le_trans (by omega) (h2 x List.mem_cons_self)
      · exact h2 y hy
    · rw [if_neg h]
      obtain ⟨h1, h2⟩ := maxOf_mem xs m
      refine ⟨?_, fun y hy => ?_⟩
      · rcases List.mem_cons.mp h1 with e | e
        · rw [e]; exact List.mem_cons_self
        · exact List.mem_cons_of_mem _ (List.mem_cons_of_mem _ e)
      · rcases List.mem_cons.mp hy with rfl | hy
        · exact h2 _ List.mem_cons_self
        · rcases List.mem_cons.mp hy with rfl | hy
          · exact Int.le_trans (by omega) (h2 m List.mem_cons_self)
          · exact h2 y (List.mem_cons_of_mem _ hy)
theorem minOf_mem : ∀ (xs : List Int) (m : Int), minOf xs m ∈ m :: xs ∧ ∀ y ∈ m :: xs, minOf xs m ≤ y
  | [], m => ⟨by simp [minOf], fun y h => by simp at h; subst h; exact Int.le_refl _⟩
  | x :: xs, m => by
    unfold minOf
    by_cases h : x < m
    · rw [if_pos h]
      obtain ⟨h1, h2⟩ := minOf_mem xs x
      refine ⟨List.mem_cons_of_mem _ h1, fun y hy => ?_⟩
      rcases List.mem_cons.mp hy with rfl | hy
      · exact Int.le_trans (h2 x List.mem_cons_self) (by omega)
      · exact h2 y hy
    · rw [if_neg h]
      obtain ⟨h1, h2⟩ := minOf_mem xs m
      refine ⟨?_, fun y hy => ?_⟩
      · rcases List.mem_cons.mp h1 with e | e
        · rw [e]; exact List.mem_cons_self
        · exact List.mem_cons_of_mem _ (List.mem_cons_of_mem _ e)
      · rcases List.mem_cons.mp hy with rfl | hy
        · exact h2 _ List.mem_cons_self
        · rcases List.mem_cons.mp hy with rfl | hy
          · exact Int.le_trans (h2 m List.mem_cons_self) (by omega)
          · exact h2 y (List.mem_cons_of_mem _ hy)
/-! ### sorted -/
theorem insD_perm (x : D) : ∀ l : List D, (insD x l).Perm (x :: l)
  | [] => List.Perm.refl _
  | y :: ys => by
    unfold insD
    split
    · exact List.Perm.refl _
    · exact ((insD_perm x ys).cons y).trans (List.Perm.swap x y ys)
theorem leD_total : PySem.W.TotalLe leD := by
  have h := PySem.W.sortLe_total (PyProof.Rows.listOrd PyProof.Rows.itemOrd) false (fun d : D => PySem.W.keyToks d)
  exact h
theorem insD_sorted (x : D) : ∀ l : List D, l.Pairwise (fun a b => leD a b = true) → (insD x l).Pairwise (fun a b => leD a b = true)
  | [], _ => by simp [insD]
  | y :: ys, h => by
    unfold insD
    split
    · rename_i e
      refine List.pairwise_cons.mpr ⟨fun z hz => ?_, h⟩
      rcases List.mem_cons.mp hz with rfl | hz
      · exact e
      · exact leD_total.trans x y z e ((List.pairwise_cons.mp h).1 z hz)
    · rename_i e
      refine List.pairwise_cons.mpr ⟨fun z hz => ?_, insD_sorted x ys (List.pairwise_cons.mp h).2⟩
      rcases List.mem_cons.mp ((insD_perm x ys).mem_iff.mp hz) with rfl | hz
      · rcases leD_total.total y z with q | q
        · exact q
        · exact absurd q e
      · exact (List.pairwise_cons.mp h).1 z hz
theorem isortD_sorted : ∀ l : List D, (isortD l).Pairwise (fun a b => leD a b = true)
  | [] => by simp [isortD]
  | x :: xs => insD_sorted x _ (isortD_sorted xs)
theorem insD_filter (x : D) (c : D) : ∀ l : List D, l.Pairwise (fun a b => leD a b = true) → (insD x l).filter (PySem.W.sameRank leD c) = (x :: l).filter (PySem.W.sameRank leD c)
  | [], _ => rfl
  | y :: ys, h => by
    unfold insD
    split
    · rfl
    · rename_i e
      rw [List.filter_cons, insD_filter x c ys (List.pairwise_cons.mp h).2, List.filter_cons (x := x), List.filter_cons (x := x), List.filter_cons (x := y)]
      by_cases hx : PySem.W.sameRank leD c x = true
      · by_cases hy : PySem.W.sameRank leD c y = true
        · exfalso
          unfold PySem.W.sameRank at hx hy
          rw [Bool.and_eq_true] at hx hy
          exact e (leD_total.trans x c y hx.2 hy.1)
        · rw [if_neg hy, if_pos hx, if_neg hy, if_pos hx]
      · rw [if_neg hx, if_neg hx]
theorem isortD_filter (c : D) : ∀ l : List D, (isortD l).filter (PySem.W.sameRank leD c) = l.filter (PySem.W.sameRank leD c)
  | [] => rfl
  | x :: xs => by
    show (insD x (isortD xs)).filter _ = _
    rw [insD_filter x c _ (isortD_sorted xs), List.filter_cons, List.filter_cons, isortD_filter c xs]
theorem isortD_eq (l : List D) : isortD l = l.mergeSort (PySem.W.dataLe false fun d : D => d) := by
  have e : (PySem.W.dataLe false fun d : D => d) = leD := rfl
  rw [e]
  exact PySem.W.sort_unique leD_total (isortD_sorted l) fun c => isortD_filter c l
theorem isortD_perm : ∀ l : List D, (isortD l).Perm l
  | [] => List.Perm.refl _
  | x :: xs => (insD_perm x _).trans ((isortD_perm xs).cons x)
theorem sortOk_use {ds : List D} (h : sortOk ds = true) : PySem.W.AllAlike ds ∧ PySem.W.Sortable ds ∧ ∀ d ∈ ds, d.depth ≤ 60 := by
  unfold sortOk at h
  rw [Bool.and_eq_true, Bool.and_eq_true, Bool.or_eq_true] at h
  obtain ⟨⟨h1, h2⟩, h3⟩ := h
  refine ⟨fun d hd d' hd' => List.all_eq_true.mp (List.all_eq_true.mp h1 d hd) d' hd', ?_, fun d hd => of_decide_eq_true (List.all_eq_true.mp h3 d hd)⟩
  rcases h2 with h2 | h2
  · refine .inl fun d hd => ?_
    have := List.all_eq_true.mp h2 d hd
    unfold isTup1 at this
    split at this
    · exact ⟨_, _, rfl⟩
    · cases this
  · refine .inr fun d hd => ?_
    have := List.all_eq_true.mp h2 d hd
    unfold noTup at this
    split at this
    · cases this
    · cases this
    · rename_i h4 h5
      exact ⟨fun e => h5 e, fun xs e => h4 xs e⟩
section
variable {K : PySem.W.Frag} {Hf : Hp}
theorem each_of_dq : ∀ {ds : List D} {vs : List V} {us : List Value}, DqAll K Hf vs ds → Vals vs us → PySem.W.EachIs (fun (v : Value) (d : D) => ∃ x : V, RelV x v ∧ Dq K Hf x d) us ds
  | [], _, _, h, r => by cases h; cases r; exact .nil
  | d :: ds, _, _, h, r => by
    cases h with
    | cons h1 h2 =>
      cases r with
      | cons r1 r2 => exact .cons ⟨_, r1, h1⟩ (each_of_dq h2 r2)
theorem dq_of_each : ∀ {ds : List D} {us : List Value}, PySem.W.EachIs (fun (v : Value) (d : D) => ∃ x : V, RelV x v ∧ Dq K Hf x d) us ds → ∃ vs, Vals vs us ∧ DqAll K Hf vs ds
  | _, _, .nil => ⟨[], .nil, .nil⟩
  | _, _, .cons ⟨x, r, q⟩ t => by
    obtain ⟨vs, r2, q2⟩ := dq_of_each t
    exact ⟨x :: vs, .cons r r2, .cons q q2⟩
end
section
variable {X : Cx} {pins : List (Addr × Obj)} {s : Shared} {σ : L2.St} {H : Hp}
theorem each_reads {Hf : Hp} (I : Inv X pins σ H s) (sub : ∀ a o, Hf a = some o → H a = some o) {ds : List D} {us : List Value} (h : PySem.W.EachIs (fun (v : Value) (d : D) => ∃ x : V, RelV x v ∧ Dq X.K Hf x d) us ds) :
    PySem.W.EachIs (fun (v : Value) (d : D) => ∃ as, Reads s.heap v d as) us ds :=
  h.mono fun v d ⟨x, r, q⟩ => Dp.reads I d x v (Dp.mono' sub (Dq.dp d q)) r
theorem call_sorted (hu : X.A.units + 65 < cLine) {Hf : Hp} {Q : VK} {p : Addr} {vs : List V} {ds : List D} {us : List Value} (I : Inv X pins σ H s) (sub : ∀ a o, Hf a = some o → H a = some o) (hp : H p = some (.lst vs)) (hd : DqAll X.K Hf vs ds) (ho : sortOk ds = true)
    (rx : Vals [.ref p] us) (q : ∀ ws l, DqAll X.K Hf ws (isortD ds) → H l = none → Q (.ref l) (upd H l (.lst ws))) : wpAny (model X.prog X.w) X.A (call (.builtin "sorted") us) (EP X pins σ Q) X.xe s := by
  obtain ⟨its, rv, hl, hz⟩ := I.list (.of hp)
  rw [Vals.ref1 rx]
  obtain ⟨h1, h2, h3⟩ := sortOk_use ho
  have e := each_of_dq hd rv
  refine PySem.W.sorted_data (enc := fun d => d) (R := fun (v : Value) (d : D) => ∃ x : V, RelV x v ∧ Dq X.K Hf x d) hl.isList e (each_reads I sub e) (by rw [List.map_id']; exact h1) (by rw [List.map_id']; exact h2) (by rw [← hd.length]; exact hz) (fun d hdm => ?_) fun out h4 h5 => ?_
  · have := h3 d hdm
    show X.A.units + 2 + d.depth < cLine
    omega
  · rw [← isortD_eq] at h5
    obtain ⟨ws, r, hw⟩ := dq_of_each h5
    obtain ⟨ep, he'⟩ := PyProof.Rows.sortedAll_at s.heap its out.toArray
    have hlen : ws.length ≤ sizeLine := by
      rw [hw.length, (isortD_perm ds).length_eq, ← hd.length]
      exact hz
    exact ⟨.ref _, upd H (s.heap.objs.size + 1) (.lst ws), I.laid (t' := s.toks) (fun _ _ => PyProof.Rows.sortedAll_old) (Nat.le_succ _) ⟨hlen, out, ep, r, he'⟩, rfl, q _ _ hw (I.hok.fresh (Nat.le_succ _))⟩
end
theorem lsOf_rep' {K : PySem.W.Frag} {φ : Nat → Addr} {Hf F : Hp} {st : Sto} {H : Hp} {a : Val} {x : V} {xs : List Val} (rs : RS K φ Hf F st H) (rv : RV K φ st.length Hf a x) (h : lsOf a st = some xs) : ∃ p vs, x = .ref p ∧ H p = some (.lst vs) ∧ RVs K φ st.length Hf xs vs := lsOf_rep rs h rv
def biFn : Bi → Value
  | .len => .builtin "len"
  | .abs => .builtin "abs"
  | .int => .type "int"
  | .str => .type "str"
  | .max2 => .builtin "max"
  | .min2 => .builtin "min"
  | .maxL => .builtin "max"
  | .minL => .builtin "min"
  | .tuple => .type "tuple"
  | .list => .type "list"
  | .sorted => .builtin "sorted"
  | .any => .builtin "any"
  | .all => .builtin "all"
  | .sum => .builtin "sum"
  | .repr => .builtin "repr"
theorem repr_ok {prog : Program} {w : World} {A : Around} {E : Value → Shared → Prop} {s : Shared} {u : Value} {d : D} {as : List Addr} {Q : Value → Shared → Prop} (hg : A.guards = some []) (hu : A.units + (d.depth + 1) < cLine) (r : Reads s.heap u d as) (hs : d.showable = true) (hd : d.hasDict = false) (hz : d.shown.length ≤ sizeLine)
    (hQ : ∀ h' tk, (∀ b o, s.heap.get? b = some o → h'.get? b = some o) → ∀ t, Q (.str d.shown t) { s with heap := h', toks := tk }) : wpAny (model prog w) A (call (.builtin "repr") [u]) Q E s := by
  have keep : ∀ t, Q (.str d.shown t) { s with toks := s.toks + 1 } := fun t => hQ s.heap (s.toks + 1) (fun _ _ e => e) t
  cases r with
  | none =>
    simp only [PyData.shown] at keep
    exact P.repr_of_none (keep _)
  | bool b =>
    simp only [PyData.shown] at keep
    exact P.repr_of_bool (by cases b <;> exact keep _)
  | int i t =>
    simp only [PyData.shown] at keep
    exact P.repr_of_int (by simpa [PyData.showable] using hs) (keep _)
  | str x t =>
    simp only [PyData.shown] at keep
    exact P.repr_of_str (keep _) (by simpa only [PyData.shown] using hz)
  | list h1 h2 h3 h4 => exact repr_of_reads' (.list h1 h2 h3 h4) hs (fun z => by rw [hd] at z; cases z) hg hu (fun _ _ e => e) (fun h' u tk k => hQ h' tk k u) hz
  | tuple h1 h2 h3 h4 => exact repr_of_reads' (.tuple h1 h2 h3 h4) hs (fun z => by rw [hd] at z; cases z) hg hu (fun _ _ e => e) (fun h' u tk k => hQ h' tk k u) hz
  | dict _ _ _ _ _ => cases hd
section
variable {X : Cx}
theorem dpi_ints {K : PySem.W.Frag} {H : Hp} : ∀ ns : List Int, DpAll K H (ns.map V.int) (ns.map PyData.int)
  | [] => .nil
  | n :: ns => .cons (.int n) (dpi_ints ns)
theorem alike_ints (ns : List Int) : PySem.W.AlikeAll (ns.map PyData.int) := by
  refine ⟨fun x hx y hy => ?_, fun x hx => ?_⟩
  · obtain ⟨i, _, rfl⟩ := List.mem_map.mp hx
    obtain ⟨j, _, rfl⟩ := List.mem_map.mp hy
    rfl
  · obtain ⟨i, _, rfl⟩ := List.mem_map.mp hx
    exact fun z => nomatch z
theorem fold_max : ∀ (ns : List Int) (n : Int), ns.foldl max n = maxOf ns n
  | [], _ => rfl
  | k :: ns, n => by
    show ns.foldl max (max n k) = maxOf ns (if k > n then k else n)
    rw [fold_max ns]
    congr 1
    split <;> omega
theorem fold_min : ∀ (ns : List Int) (n : Int), ns.foldl min n = minOf ns n
  | [], _ => rfl
  | k :: ns, n => by
    show ns.foldl min (min n k) = minOf ns (if k < n then k else n)
    rw [fold_min ns]
    congr 1
    split <;> omega
theorem cr_maxT (hc : X.calm = true) (hu : X.A.units + 65 < cLine) : CallR X (.builtin "max") (fun vs H Q => ∃ (a : Addr) (n : Int) (ns : List Int), vs = [V.ref a] ∧ SqT X.K H a ((n :: ns).map V.int) ∧ Q (.int (maxOf ns n)) H) := by
  rintro pins s σ H vs us Q I r ⟨a, n, ns, rfl, hs, q⟩
  obtain ⟨its, rv, pt, _⟩ := I.tuple hs
  obtain ⟨as, hr⟩ := Dp.readsAll I ((n :: ns).map PyData.int) _ its (dpi_ints (n :: ns)) rv
  rw [Vals.ref1 r]
  refine PySem.W.max_tuple_data (x := .int n) (xs := ns.map .int) (vs := its.toArray) (I.ok.hd hc) (show s.heap.IsTuple a its.toArray from pt) (by simpa using hr) (alike_ints (n :: ns)) (by have := depthAll_ints (n :: ns); show _ + PyData.depthAll ((n :: ns).map .int) < _; omega) fun i v h' tk bs _ rd hk => ?_
  rw [PySem.W.maxD_ints, fold_max] at rd
  cases rd
  exact ⟨.int _, H, I.kept hk, ⟨_, rfl⟩, q⟩
theorem cr_minT (hc : X.calm = true) (hu : X.A.units + 65 < cLine) : CallR X (.builtin "min") (fun vs H Q => ∃ (a : Addr) (n : Int) (ns : List Int), vs = [V.ref a] ∧ SqT X.K H a ((n :: ns).map V.int) ∧ Q (.int (minOf ns n)) H) := by
  rintro pins s σ H vs us Q I r ⟨a, n, ns, rfl, hs, q⟩
  obtain ⟨its, rv, pt, _⟩ := I.tuple hs
  obtain ⟨as, hr⟩ := Dp.readsAll I ((n :: ns).map PyData.int) _ its (dpi_ints (n :: ns)) rv
  rw [Vals.ref1 r]
  refine PySem.W.min_tuple_data (x := .int n) (xs := ns.map .int) (vs := its.toArray) (I.ok.hd hc) (show s.heap.IsTuple a its.toArray from pt) (by simpa using hr) (alike_ints (n :: ns)) (by have := depthAll_ints (n :: ns); show _ + PyData.depthAll ((n :: ns).map .int) < _; omega) fun i v h' tk bs _ rd hk => ?_
  rw [PySem.W.minD_ints, fold_min] at rd
  cases rd
  exact ⟨.int _, H, I.kept hk, ⟨_, rfl⟩, q⟩
end
theorem call_bi {X : Cx} (hc : X.calm = true) (hu : X.A.units + 65 < cLine) (hgd : X.A.guards = some []) (r : Bool) (b : Bi) : CallR X (biFn b) (kC X.K (biV r b)) := by
  intro pins s σ H vs us Q I rx h
  obtain ⟨as, st, φ, Hf, F, W, rs, ra, out⟩ := h
  unfold biV at out
  split at out
  · -- len
    rename_i x
    obtain ⟨v, rfl, rv⟩ := rv1 ra
    obtain ⟨z, e0, out⟩ := out.ofO
    obtain ⟨n, hn, rfl⟩ := Option.map_eq_some_iff.mp e0
    have q : Q (.int n) H := out.here rs _ (.int _)
    unfold lenOf at hn
    split at hn
    · split at hn
      · rename_i hy
        cases hn
        cases rv
        exact call_len pins s σ H _ us Q I rx ⟨_, _, rfl, ⟨hy, rfl⟩, q⟩
      · cases hn
    · split at hn
      · rename_i xs e
        cases hn
        obtain ⟨p, ws, rfl, hp, rw'⟩ := seqOf_rep rs e rv
        rcases hp with hp | hp
        · exact call_len pins s σ H _ us Q I rx ⟨_, _, rfl, .inl ⟨ws, .of hp, rw'.length⟩, q⟩
        · exact call_len pins s σ H _ us Q I rx ⟨_, _, rfl, .inr ⟨ws, hp, rw'.length⟩, q⟩
      · split at hn
        · split at hn
          · rename_i kvs e
            cases hn
            obtain ⟨hi, rfl⟩ := rv
            obtain ⟨o, e1, ⟨ks, rfl, rk⟩, _⟩ := rs.cell _ _ e rfl
            rw [rk.length] at q
            exact call_lenD pins s σ H _ us Q I rx ⟨_, ks, rfl, e1, q⟩
          · cases hn
        · cases hn
  · obtain ⟨v, rfl, rv⟩ := rv1 ra
    cases rv
    exact call_abs pins s σ H _ us Q I rx ⟨_, rfl, out.here rs _ (.int _)⟩
  · obtain ⟨v, rfl, rv⟩ := rv1 ra
    cases rv
    exact call_int1 pins s σ H _ us Q I rx (.inl ⟨_, rfl, out.here rs _ (.int _)⟩)
  · obtain ⟨v, rfl, rv⟩ := rv1 ra
    cases rv
    exact call_int1 pins s σ H _ us Q I rx (.inr ⟨_, rfl, out.here rs _ (.int _)⟩)
  · obtain ⟨v, w, rfl, rv, rw'⟩ := rv2 ra
    cases rv
    cases rw'
    exact call_max2 hc pins s σ H _ us Q I rx ⟨_, _, rfl, out.here rs _ (.int _)⟩
  · obtain ⟨v, w, rfl, rv, rw'⟩ := rv2 ra
    cases rv
    cases rw'
    exact call_min2 hc pins s σ H _ us Q I rx ⟨_, _, rfl, out.here rs _ (.int _)⟩
  · -- tuple
    rename_i x
    obtain ⟨v, rfl, rv⟩ := rv1 ra
    split at out
    · rename_i xs e
      have alt : ∀ p ws, v = .ref p → H p = some (.lst ws) → RVs X.K φ st.length Hf xs ws → wpAny (model X.prog X.w) X.A (call (biFn .tuple) us) (EP X pins σ Q) X.xe s := fun p ws ev hp rw' => by
        subst ev
        exact call_tuple_of pins s σ H _ us Q I rx ⟨p, ws, rfl, .inl ⟨.of hp, (mkT_fin rs rw' out).2⟩⟩
      cases x with
      | d d =>
        cases d with
        | tuple ds =>
          cases e
          cases rv with
          | tup h1 h2 => exact call_tuple_of pins s σ H _ us Q I rx ⟨_, _, rfl, .inr ⟨SqT.mono h1 rs.sub, mkT_same rs (RVs.to_dats h2) h1 out⟩⟩
        | _ =>
          obtain ⟨p, ws, ev, hp, rw'⟩ := lsOf_rep' rs rv e
          exact alt p ws ev hp rw'
      | ref i =>
        obtain ⟨p, ws, ev, hp, rw'⟩ := lsOf_rep' rs rv e
        exact alt p ws ev hp rw'
    · exact out.elim
  · -- list
    rename_i x
    obtain ⟨v, rfl, rv⟩ := rv1 ra
    split at out
    · rename_i xs e
      obtain ⟨p, ws, rfl, hp, rw'⟩ := seqOf_rep rs e rv
      exact call_list_of pins s σ H _ us Q I rx ⟨p, ws, rfl, hp.imp .of fun z => z, (mkL_fin rs rw' out).2⟩
    · exact out.elim
  · -- any
    rename_i x
    obtain ⟨v, rfl, rv⟩ := rv1 ra
    split at out
    · rename_i xs e
      obtain ⟨p, ws, rfl, hp, rw'⟩ := lsOf_rep rs e rv
      obtain ⟨z, e0, out⟩ := out.ofO
      obtain ⟨bs, hb, rfl⟩ := Option.map_eq_some_iff.mp e0
      have ew := allBls_rep hb rw'
      subst ew
      exact cr_any hc pins s σ H _ us Q I rx ⟨p, bs, rfl, .of hp, out.here rs _ (.bl _)⟩
    · exact out.elim
  · -- all
    rename_i x
    obtain ⟨v, rfl, rv⟩ := rv1 ra
    split at out
    · rename_i xs e
      obtain ⟨p, ws, rfl, hp, rw'⟩ := lsOf_rep rs e rv
      obtain ⟨z, e0, out⟩ := out.ofO
      obtain ⟨bs, hb, rfl⟩ := Option.map_eq_some_iff.mp e0
      have ew := allBls_rep hb rw'
      subst ew
      exact cr_all hc pins s σ H _ us Q I rx ⟨p, bs, rfl, .of hp, out.here rs _ (.bl _)⟩
    · exact out.elim
  · -- sorted
    rename_i x
    obtain ⟨v, rfl, rv⟩ := rv1 ra
    split at out
    · rename_i xs e
      obtain ⟨p, ws, rfl, hp, rw'⟩ := lsOf_rep rs e rv
      split at out
      · rename_i ds hd
        split at out
        · rename_i hs
          refine call_sorted hu I rs.sub hp (RVs.of_dats hd rw') hs rx fun zs l hz hl => ?_
          exact (mkL_fin rs (RVs.to_dats hz) out).2 l hl
        · exact out.elim
      · exact out.elim
    · exact out.elim
  · -- max
    rename_i x
    obtain ⟨v, rfl, rv⟩ := rv1 ra
    split at out
    · rename_i xs e
      obtain ⟨p, ws, rfl, hp, rw'⟩ := seqOf_rep rs e rv
      split at out
      · rename_i n ns hn
        have ew := allInts_rep hn rw'
        subst ew
        rcases hp with hp | hp
        rotate_left
        · exact cr_maxT hc hu pins s σ H _ us Q I rx ⟨p, n, ns, rfl, hp, out.here rs _ (.int _)⟩
        refine cr_max hc pins s σ H _ us Q I rx ⟨p, n :: ns, rfl, .of hp, Nat.succ_pos _, fun m h1 h2 => ?_⟩
        obtain ⟨h3, h4⟩ := maxOf_mem ns n
        have em : m = maxOf ns n := Int.le_antisymm (h4 m h1) (h2 _ h3)
        subst em
        exact out.here rs _ (.int _)
      · exact out.elim
    · exact out.elim
  · -- min
    rename_i x
    obtain ⟨v, rfl, rv⟩ := rv1 ra
    split at out
    · rename_i xs e
      obtain ⟨p, ws, rfl, hp, rw'⟩ := seqOf_rep rs e rv
      split at out
      · rename_i n ns hn
        have ew := allInts_rep hn rw'
        subst ew
        rcases hp with hp | hp
        rotate_left
        · exact cr_minT hc hu pins s σ H _ us Q I rx ⟨p, n, ns, rfl, hp, out.here rs _ (.int _)⟩
        refine cr_min hc pins s σ H _ us Q I rx ⟨p, n :: ns, rfl, .of hp, Nat.succ_pos _, fun m h1 h2 => ?_⟩
        obtain ⟨h3, h4⟩ := minOf_mem ns n
        have em : m = minOf ns n := Int.le_antisymm (h2 _ h3) (h4 m h1)
        subst em
        exact out.here rs _ (.int _)
      · exact out.elim
    · exact out.elim
  · -- sum
    rename_i x
    obtain ⟨v, rfl, rv⟩ := rv1 ra
    split at out
    · rename_i xs e
      obtain ⟨p, ws, rfl, hp, rw'⟩ := lsOf_rep rs e rv
      obtain ⟨z, e0, out⟩ := out.ofO
      obtain ⟨bs, hb, rfl⟩ := Option.map_eq_some_iff.mp e0
      have ew := allInts_rep hb rw'
      subst ew
      exact cr_sum hc pins s σ H _ us Q I rx ⟨p, bs, rfl, .of hp, out.here rs _ (.int _)⟩
    · exact out.elim
  · -- repr
    rename_i x
    obtain ⟨v, rfl, rv⟩ := rv1 ra
    split at out
    · rename_i d hd
      split at out
      · rename_i hh
        rw [Bool.and_eq_true, Bool.and_eq_true, Bool.and_eq_true, decide_eq_true_eq, decide_eq_true_eq, Bool.not_eq_true'] at hh
        obtain ⟨h1, h2, h3, h4⟩ := hh
        have q : Q (.str d.shown) H := out.here rs _ (.str _)
        obtain ⟨u1, rfl, ru⟩ := vals1 rx
        have dp := dv_rep rs 8 hd rv
        obtain ⟨as, hr⟩ := Dp.reads I d v u1 dp ru
        exact repr_ok hgd (by omega) hr h1 h2 h4 fun h' tk k t => ⟨.str d.shown, H, I.kept (t' := tk) k, ⟨t, rfl⟩, q⟩
      · exact out.elim
    · exact out.elim
  · -- str
    rename_i i
    obtain ⟨v, rfl, rv⟩ := rv1 ra
    split at out
    · rename_i h
      cases rv
      exact call_str_int pins s σ H _ us Q I rx ⟨i, rfl, h, out.here rs _ (.str _)⟩
    · exact out.elim
  · exact out.elim
end Ev
set_option Elab.async false
set_option linter.all false
set_option maxRecDepth 100000
/-! Ev7: methods, stores, by values. -/
namespace Ev
open PySem PySem.Spec PyProof.Rows L2

def kM (K : PySem.W.Frag) (f : Val → List Val → Sto → R Val) : V → List V → Hp → VK → Prop := fun x vs H Q => ∃ a as st φ Hf F W, RS K φ Hf F st H ∧ RV K φ st.length Hf a x ∧ RVs K φ st.length Hf as vs ∧ Out K F W φ Hf st.length (f a as st) (kQ K Q)
def mtId : Mt → String
  | .append => "list.append"
  | .pop0 => "list.pop"
  | .pop1 => "list.pop"
  | .extend => "list.extend"
  | .index => "list.index"
  | .insert => "list.insert"
  | .join => "str.join"
theorem findD_use {d : D} : ∀ {ds : List D} {k j : Nat}, findD d ds k = some j → k ≤ j ∧ ∃ z, ds[j - k]? = some z ∧ PyData.eqv z d = true ∧ ∀ (m : Nat) (z' : D), m < j - k → ds[m]? = some z' → PyData.eqv z' d = false
  | [], _, _, h => by cases h
  | x :: xs, k, j, h => by
    unfold findD at h
    split at h
    · rename_i e
      cases h
      refine ⟨Nat.le_refl _, x, by rw [Nat.sub_self]; rfl, e, fun m z' hm _ => by omega⟩
    · rename_i e
      obtain ⟨h1, z, h2, h3, h4⟩ := findD_use h
      have e1 : j - k = (j - (k + 1)) + 1 := by omega
      refine ⟨by omega, z, by rw [e1]; exact h2, h3, fun m z' hm hz => ?_⟩
      cases m with
      | zero =>
        cases hz
        exact Bool.eq_false_iff.mpr e
      | succ m => exact h4 m z' (by omega) hz
section
variable {X : Cx}
theorem RS.setL {K : PySem.W.Frag} {φ : Nat → Addr} {Hf F : Hp} {st : Sto} {H : Hp} {i : Nat} {xs ys : List Val} {us : List V} (rs : RS K φ Hf F st H) (h0 : st[i]? = some (.lst xs)) (r : RVs K φ st.length Hf ys us) :
    RS K φ Hf F (st.set i (.lst ys)) (upd H (φ i) (.lst us)) ∧ Up φ Hf st.length φ Hf (st.set i (.lst ys)).length :=
  ⟨rs.write h0 rfl ⟨us, rfl, r⟩ rfl, by rw [List.length_set]; exact Up.refl⟩
theorem mt_val (hu : X.A.units + 65 < cLine) (m : Mt) : MtR X (mtId m) (kM X.K (mtV m)) := by
  intro pins s σ H x vs v us Q I rx rvs h
  obtain ⟨a, as, st, φ, Hf, F, W, rs, ra, ras, out⟩ := h
  unfold mtV at out
  split at out
  · -- append
    split at out
    · rename_i i
      split at out
      · rename_i xs e
        split at out
        · rename_i hz
          obtain ⟨w, rfl, rw'⟩ := rv1 ras
          obtain ⟨hi, rfl⟩ := ra
          obtain ⟨o, e1, ⟨ws, rfl, r⟩, _⟩ := rs.cell _ _ e rfl
          have z := rs.setL e (pairApp r (.cons rw' .nil))
          refine mt_append pins s σ H _ _ v us Q I rx rvs ⟨_, ws, w, rfl, rfl, e1, by rw [← r.length]; exact hz, ?_⟩
          exact out _ _ _ z.2 z.1 _ .non
        · exact out.elim
      · exact out.elim
    · exact out.elim
  · -- pop
    split at out
    · rename_i i
      split at out
      · rename_i xs e
        split at out
        · rename_i y hy
          cases ras
          obtain ⟨hi, rfl⟩ := ra
          obtain ⟨o, e1, ⟨ws, rfl, r⟩, _⟩ := rs.cell _ _ e rfl
          obtain ⟨w, h1, h2⟩ := at_pair r hy
          have z := rs.setL e (pairDropLast r)
          refine mt_pop pins s σ H _ _ v us Q I rx rvs ⟨_, ws, w, rfl, rfl, e1, by rw [← r.length]; exact h1, ?_⟩
          exact out _ _ _ z.2 z.1 _ (by rw [List.length_set]; exact h2)
        · exact out.elim
      · exact out.elim
    · exact out.elim
  · -- pop at
    split at out
    · rename_i i
      split at out
      · rename_i xs e
        split at out
        · rename_i k hk
          split at out
          · rename_i y hy
            obtain ⟨wi, rfl, rwi⟩ := rv1 ras
            cases rwi
            obtain ⟨hi, rfl⟩ := ra
            obtain ⟨o, e1, ⟨ws, rfl, r⟩, _⟩ := rs.cell _ _ e rfl
            obtain ⟨w, h1, h2⟩ := at_pair r hy
            have z := rs.setL e (pairErase k r)
            rw [r.length] at hk
            obtain ⟨k1, k2, k3, k4⟩ := ixN_seq hk
            obtain ⟨_, _, _, hlen⟩ := I.list (.of e1)
            have h63 := line63
            refine mt_popAt pins s σ H _ _ v us Q I rx rvs ⟨_, ws, _, k, w, rfl, rfl, e1, by omega, by omega, k1, h1, ?_⟩
            exact out _ _ _ z.2 z.1 _ (by rw [List.length_set]; exact h2)
          · exact out.elim
        · exact out.elim
      · exact out.elim
    · exact out.elim
  · -- extend
    split at out
    · rename_i i
      split at out
      · rename_i xs ys e ey
        split at out
        · rename_i hz
          obtain ⟨w, rfl, rw'⟩ := rv1 ras
          obtain ⟨hi, rfl⟩ := ra
          obtain ⟨o, e1, ⟨ws, rfl, r⟩, _⟩ := rs.cell _ _ e rfl
          obtain ⟨p, zs, rfl, hp, r2⟩ := lsOf_rep' rs rw' ey
          have z := rs.setL e (pairApp r r2)
          refine mt_extend pins s σ H _ _ v us Q I rx rvs ⟨_, p, ws, zs, rfl, rfl, e1, hp, by rw [← r.length, ← r2.length]; exact hz, ?_⟩
          exact out _ _ _ z.2 z.1 _ .non
        · exact out.elim
      · exact out.elim
    · exact out.elim
  · -- index
    split at out
    · rename_i ds d e1 e2
      split at out
      · rename_i hs
        rw [Bool.and_eq_true] at hs
        obtain ⟨z, e0, out⟩ := out.ofO
        obtain ⟨j, hj, rfl⟩ := Option.map_eq_some_iff.mp e0
        obtain ⟨w, rfl, rw'⟩ := rv1 ras
        have h1 := dv_rep rs 2 e1 ra
        have h2 := dv_rep rs 2 e2 rw'
        obtain ⟨_, z, h3, h4, h5⟩ := findD_use hj
        rw [Nat.sub_zero] at h3 h5
        cases h1 with
        | lst h6 h7 =>
          exact mt_indexD hu pins s σ H _ _ v us Q I rx rvs ⟨_, w, d, ds, j, z, rfl, rfl, .lst h6 h7, h2, hs.2, hs.1, h3, h4, h5, out.here rs _ (.int _)⟩
      · exact out.elim
    · exact out.elim
  · exact out.elim
/-- what the receiver must be, ahead of the arguments -/
def mtT : Mt → String
  | .join => "str"
  | _ => "list"
theorem kind_ty {φ : Nat → Addr} {Hf F : Hp} {st : Sto} {H : Hp} {m : Mt} {a : Val} {x : V} (rs : RS X.K φ Hf F st H) (ra : RV X.K φ st.length Hf a x) (h : kindOk m a st = true) : tyV X.K (mtT m) x H := by
  have ls : (lsOf a st).isSome = true → tyV X.K "list" x H := fun h => by
    obtain ⟨xs, e⟩ := Option.isSome_iff_exists.mp h
    obtain ⟨p, vs, rfl, hp, _⟩ := lsOf_rep' rs ra e
    exact .inl ⟨rfl, _, .of hp⟩
  cases m with
  | join =>
    simp only [kindOk] at h
    split at h
    · cases ra; rfl
    · cases h
  | append => exact ls h
  | pop0 => exact ls h
  | pop1 => exact ls h
  | extend => exact ls h
  | index => exact ls h
  | insert => exact ls h
/-! ### stores -/
theorem putK_rep {K : PySem.W.Frag} {φ : Nat → Addr} {n : Nat} {Hf : Hp} (k : Key) {x : Val} {v : V} (r : RV K φ n Hf x v) {kvs : List (Key × Val)} {ks : List (Key × V)} (h : Paired (fun (p : Key × Val) (q : Key × V) => p.1 = q.1 ∧ RV K φ n Hf p.2 q.2) kvs ks) :
    Paired (fun (p : Key × Val) (q : Key × V) => p.1 = q.1 ∧ RV K φ n Hf p.2 q.2) (putK k x kvs) (L2.putK ks k v) := by
  have hany : (kvs.any fun kv => decide (kv.1 = k)) = (ks.any fun kv => decide (kv.1 = k)) := by
    induction h with
    | nil => rfl
    | cons e t ih => rw [List.any_cons, List.any_cons, e.1, ih]
  unfold putK L2.putK
  rw [← hany]
  split
  · rename_i hq
    clear hany hq
    induction h with
    | nil => exact .nil
    | @cons a b l1 l2 e t ih =>
      refine .cons ?_ ih
      show (if a.1 = k then (a.1, x) else a).1 = (if b.1 = k then (b.1, v) else b).1 ∧ RV K φ n Hf (if a.1 = k then (a.1, x) else a).2 (if b.1 = k then (b.1, v) else b).2
      by_cases hk : a.1 = k
      · have hk' : b.1 = k := e.1 ▸ hk
        rw [if_pos hk, if_pos hk']
        exact ⟨e.1, r⟩
      · have hk' : ¬ b.1 = k := e.1 ▸ hk
        rw [if_neg hk, if_neg hk']
        exact e
  · exact pairApp h (.cons ⟨rfl, r⟩ .nil)
def tSub (K : PySem.W.Frag) : TSet := fun o i v H Q => ∃ a b c st φ Hf F st', RS K φ Hf F st H ∧ RV K φ st.length Hf a o ∧ RV K φ st.length Hf b i ∧ RV K φ st.length Hf c v ∧ subV a b c st = some st' ∧
  ∀ H', RS K φ Hf F st' H' → Up φ Hf st.length φ Hf st'.length → Q H'
theorem set_val (hu : X.A.units + 1 < cLine) : PSet X (tSub X.K) := by
  intro pins s σ H o i v ov iv u Q I ro ri rv h
  obtain ⟨a, b, c, st, φ, Hf, F, st', rs, ra, rb, rc, e, q⟩ := h
  unfold subV at e
  split at e
  · rename_i j d
    obtain ⟨hj, rfl⟩ := ra
    split at e
    · rename_i kvs ec
      obtain ⟨o1, e1, ⟨ks, rfl, r⟩, _⟩ := rs.cell _ _ ec rfl
      split at e
      · rename_i k hk
        split at e
        · rename_i hz
          cases e
          have ex := keyOf_rep hk (Dq.dp _ rb)
          subst ex
          refine set_dict hu pins s σ H _ _ v ov iv u Q I ro ri rv ⟨_, _, rfl, DPut.k (k := k) e1 (by rw [← r.length]; exact hz), q _ (rs.write ec rfl ⟨_, rfl, putK_rep k rc r⟩ rfl) (by rw [List.length_set]; exact Up.refl)⟩
        · cases e
      · cases e
    · rename_i xs ec
      obtain ⟨o1, e1, ⟨ws, rfl, r⟩, _⟩ := rs.cell _ _ ec rfl
      split at e
      · rename_i n
        split at e
        · rename_i k hk
          cases e
          cases rb
          rw [r.length] at hk
          exact set_list pins s σ H _ _ v ov iv u Q I ro ri rv ⟨_, ws, n, k, rfl, rfl, e1, hk, q _ (rs.write ec rfl ⟨_, rfl, pairSet rc k r⟩ rfl) (by rw [List.length_set]; exact Up.refl)⟩
        · cases e
      · cases e
    · cases e
  · cases e
end
end Ev
set_option Elab.async false
set_option linter.all false
set_option maxRecDepth 100000
/-! Ev8: enumerate over a tuple; what is walked. -/
namespace Ev
open PySem PySem.Spec PyProof.Rows L2

set_option maxHeartbeats 2000000 in
theorem meets_enum1 {v : Value} {o : Obj} {H : Heap → Prop} (B : Begins v o H) :
    Meets (Builtin.«enumerate.__new__» ⟨[.type "enumerate", v], []⟩) (fun _ R s => H s.heap ∧
      R (.ok (.ret (.ref (s.heap.push o).objs.size))) { s with heap := (s.heap.push o).push { cls := .type "enumerate", data := .fields #[.none, .bool false, .ref s.heap.objs.size, rawInt 0, .none, .none] } }) :=
  .of_wp fun prog w A R s h => by
    obtain ⟨hp, g, d, tk, os⟩ := s; obtain ⟨h1, h⟩ := h
    have hsub := sub_enumerate
    have q1 : ∀ {A' : Around} {E : Value → Shared → Prop} {Q : Value → Shared → Prop}, Q (.ref hp.objs.size) ⟨hp.push o, g, d, tk, os⟩ → wpAny (model prog w) A' (pyIter v) Q E ⟨hp, g, d, tk, os⟩ :=
      fun q => B.iter prog w _ _ ⟨hp, g, d, tk, os⟩ _ h1 q
    wp_walk using q1
    refine wpAny_stack_any fun st => wpAny_pure ?_
    split
    · rename_i c _ _ _ _ _
      cases (c == Value.type "enumerate")
      · wp_walk using q1
        exact ⟨_, rfl, h⟩
      · wp_walk using q1
        exact ⟨_, rfl, h⟩
    · wp_walk using q1
      exact ⟨_, rfl, h⟩
section
variable {prog : Program} {w : World} {A : Around} {E : Value → Shared → Prop} {s : Shared}
theorem enum1_begins {v : Value} {o : Obj} {H : Heap → Prop} {Q : Value → Shared → Prop} (B : Begins v o H) (h1 : H s.heap)
    (h : ∀ h', IsEnum h' (s.heap.objs.size + 1) s.heap.objs.size 0 .none → h'.get? s.heap.objs.size = some o → h'.objs.size = s.heap.objs.size + 2 →
      (∀ b o, s.heap.get? b = some o → h'.get? b = some o) → Q (.ref (s.heap.objs.size + 1)) { s with heap := h' }) :
    wpAny (model prog w) A (call (.type "enumerate") [v]) Q E s := by
  refine callType_new F.called_enumerate (by decide) (F.typeCall_enumerate_1 _) (F.newCall_enumerate_1 _) (fun obj => F.args_object_init_2 obj _) F.entry_enumerate_new
    (meets_enum1 B) ⟨h1, ?_⟩
  have hz : (s.heap.push o).objs.size = s.heap.objs.size + 1 := Heap.size_push ..
  show _ ∧ _
  rw [hz]
  have he : IsEnum ((s.heap.push o).push { cls := .type "enumerate", data := .fields #[.none, .bool false, .ref s.heap.objs.size, rawInt 0, .none, .none] }) (s.heap.objs.size + 1) s.heap.objs.size 0 .none := by
    have := Heap.get?_push_size (s.heap.push o) (o := { cls := .type "enumerate", data := .fields #[.none, .bool false, .ref s.heap.objs.size, rawInt 0, .none, .none] }) rfl
    rw [hz] at this; exact this
  refine ⟨⟨_, he, rfl⟩, h _ he (Heap.get?_push_of_some _ (Heap.get?_push_size _ B.free)) (by rw [Heap.size_push, hz]) fun b o x => Heap.get?_push_of_some _ (Heap.get?_push_of_some _ x)⟩
end
def IteT (K : PySem.W.Frag) (a : Addr) : It :=
  ⟨fun i H => ∃ (xs : List V) (x : V), SqT K H a xs ∧ xs[i]? = some x, fun i H v H' => ∃ T x, v = .ref T ∧ H T = none ∧ H' = upd H T (.tup [.int (i : Nat), x]) ∧ ∀ xs, SqT K H a xs → xs[i]? = some x, fun i H => ∃ xs : List V, SqT K H a xs ∧ xs.length = i⟩
theorem turn_enumT {P : Program} {w : World} {K : PySem.W.Frag} {elts : List Expr} {kk : Nat} {tpos : Pos} (a e it : Addr) :
    Turn P w K (.Tuple elts kk tpos) (IteT K a) [e, it] e (fun i h => (∃ old, IsEnum h e it ((i : Nat) : Int) old) ∧ h.IsTupleIter it a i ∧ e ≠ it) where
  mem := by simp
  obj := fun i h st b hb => by
    obtain ⟨⟨old, he⟩, ⟨o, ho, hc, hd⟩, _⟩ := st
    have e' : b = e ∨ b = it := by simpa using hb
    rcases e' with z | z
    · rw [z]; exact ⟨_, he, fun v q => nomatch q⟩
    · rw [z]; exact ⟨o, ho, fun v q => by rw [hd] at q; cases q⟩
  keep := fun i h h' st k => let ⟨⟨old, he⟩, hi, hne⟩ := st; ⟨⟨old, k e (by simp) _ he⟩, hi.at fun o q => k it (by simp) o q, hne⟩
  item := by
    intro X hP hw hK hc i pins s σ H E I hf st hg
    subst hP hw hK
    obtain ⟨⟨old, he⟩, hit, hne⟩ := st
    obtain ⟨xs, x, hq, hx⟩ := hg
    obtain ⟨its, rv, p, hz⟩ := I.tuple hq
    have p' : s.heap.IsTuple a its.toArray := p
    obtain ⟨u, hu, ru⟩ := rv.get hx
    have hel : e < s.heap.objs.size := Heap.lt_size he
    have hil : it < s.heap.objs.size := by obtain ⟨_, q, _⟩ := hit; exact Heap.lt_size q
    have hae : a ≠ e := fun z => by
      obtain ⟨o, ho, hc1, _⟩ := p'
      rw [z] at ho
      have hk : s.heap.get? e = some _ := he
      rw [ho] at hk
      cases hk
      injection hc1 with z
      exact absurd z (by decide)
    have hai : a ≠ it := fun z => by
      obtain ⟨o, ho, hc1, _⟩ := p'
      obtain ⟨o2, ho2, hc2, _⟩ := id hit
      rw [z, ho2] at ho
      cases ho
      rw [hc2] at hc1
      injection hc1 with z
      exact absurd z (by decide)
    have Dr := Draws.tuple (prog := X.prog) (w := X.w) (A := X.A.in1) (I.ok.hd hc) it a hai its.toArray
    have hlt : i < its.toArray.size := by
      have := (List.getElem?_eq_some_iff.mp hu).1
      simpa using this
    refine wpAny_pyNext_enum_itemC Dr he ⟨hit, p'⟩ hlt hne (by simp [Ne.symm hae, hne]) fun x' h' tk hx' ho st' hT hsz hk => ?_
    have ex : x' = u := by
      have : its[i]? = some x' := by simpa using hx'
      rw [hu] at this
      exact (Option.some.inj this).symm
    subst ex
    refine ⟨_, rfl, wpAny_letOwnedTupleGo_enum (s := { s with heap := h', toks := tk + 1 }) ho fun h'' he' sb => ?_⟩
    have hT2 : h''.get? s.heap.objs.size = some { cls := .type "tuple", data := .seq #[.int i tk, x'] } := (sb.2 _ (Nat.ne_of_gt hel)).trans hT
    have new : ObjOk X.prog X.w (upd H s.heap.objs.size (.tup [.int (i : Nat), x])) h'' s.heap.objs.size (.tup [.int (i : Nat), x]) :=
      ⟨by show 2 ≤ sizeLine; decide, [.int i tk, x'], .cons ⟨_, rfl⟩ (.cons ru .nil), ⟨_, hT2, rfl, _, rfl⟩⟩
    have I1 : Inv X pins σ (upd H s.heap.objs.size (.tup [.int (i : Nat), x])) { s with heap := h'', toks := tk + 1 } :=
      I.turnedNew (ch := [e, it]) (fun b ob hb q => (sb.2 b (fun z => hb (by simp [z]))).trans (hk b ob (fun z => hb (by simp [z])) (fun z => hb (by simp [z])) q)) hf (Nat.le_refl _) new
    refine ⟨.ref s.heap.objs.size, _, I1, rfl, ⟨_, x, rfl, I.hok.fresh (Nat.le_refl _), rfl, fun ys hy => by rw [I.tuple_inj hy hq]; exact hx⟩, ⟨⟨x', ?_⟩, st'.1.at fun o q => (sb.2 it (Ne.symm hne)).trans q, hne⟩, fun b hb => ?_⟩
    · have e1 : ((i + 1 : Nat) : Int) = (i : Int) + 1 := by omega
      rw [e1]; exact he'
    · have hb' : b < s.heap.objs.size := by
        have e' : b = e ∨ b = it := by simpa using hb
        rcases e' with z | z
        · rw [z]; exact hel
        · rw [z]; exact hil
      rw [upd_ne (Nat.ne_of_lt hb')]
      exact (hf b hb).1
  done := by
    intro X hP hw hK hc i pins s σ H E I hf st hg
    subst hP hw hK
    obtain ⟨⟨old, he⟩, hit, hne⟩ := st
    obtain ⟨xs, hq, hx⟩ := hg
    obtain ⟨its, rv, p, hz⟩ := I.tuple hq
    have p' : s.heap.IsTuple a its.toArray := p
    obtain ⟨f0, f1, f2, f3, f4, f5⟩ := hf it (by simp)
    have hai : a ≠ it := fun z => by
      obtain ⟨o, ho, hc1, _⟩ := p'
      obtain ⟨o2, ho2, hc2, _⟩ := id hit
      rw [z, ho2] at ho
      cases ho
      rw [hc2] at hc1
      injection hc1 with z
      exact absurd z (by decide)
    have hl := rv.length
    have Dr := Draws.tuple (prog := X.prog) (w := X.w) (A := X.A.in1) (I.ok.hd hc) it a hai its.toArray
    have hi : i = its.toArray.size := by rw [List.size_toArray, ← hl, hx]
    subst hi
    exact wpAny_pyNext_enum_endD Dr he ⟨hit, p'⟩ fun h' eb => ⟨rfl, I.turned (t' := s.toks) (fun b o hb q => eb b o hb q) f0 f1 f3 f4 f5⟩
  self := fun A i s Q E st h => let ⟨⟨_, he⟩, _⟩ := st; wpAny_pyIter_enum he h
def iEnumA (K : PySem.W.Frag) (ta : TA) : TI := fun σ H R => ta σ H fun vs H1 => ∃ a xs, vs = [.ref a] ∧ ((SqL K H1 a xs ∧ R (Ite K a) H1) ∨ (SqT K H1 a xs ∧ R (IteT K a) H1))
theorem pi_enumA {X : Cx} {e : Expr} {ta : TA} {p pos tpos : Pos} {elts : List Expr} {kk : Nat} (hg : Gl X "enumerate") (hm : X.mg "enumerate" = none) (ha : PA X [e] ta) (hs : starEach [e] X.env = [(false, eval e X.env)]) :
    PI X (.Tuple elts kk tpos) (.Call (.Name "enumerate" p) [e] [] pos) (iEnumA X.K ta) := by
  refine ⟨fun pins s σ H R I h => ?_⟩
  refine Call_ (ld_blt I hg hm boot_enumerate (PyProof.Rows.callWith_type1 (thn (ha.run pos pins s σ H _ I h) fun us s1 ⟨vs, H1, I1, r1, q1⟩ => ?_) hs rfl))
  obtain ⟨a, xs, ex, q1⟩ := q1
  subst ex
  cases r1 with
  | cons r rr =>
    cases rr
    cases r
    have fp : ∀ b ∈ [s1.heap.objs.size + 1, s1.heap.objs.size], FpOk X pins H1 b := fun b hb => by
      have e' : b = s1.heap.objs.size + 1 ∨ b = s1.heap.objs.size := by simpa using hb
      have hle : s1.heap.objs.size ≤ b := by
        rcases e' with z | z
        · rw [z]; exact Nat.le_add_right _ _
        · rw [z]; exact Nat.le_refl _
      exact I1.fpOk hle (I1.hok.fresh hle)
    rcases q1 with ⟨hq, q⟩ | ⟨hq, q⟩
    · obtain ⟨its, rv, p', hz⟩ := I1.list hq
      refine call_enumerate_list p'.isList fun h' he hit hsz hk => wpAny_pyIter_enum he ?_
      have I2 : Inv X pins σ H1 { s1 with heap := h' } := I1.kept (t' := s1.toks) hk
      exact ⟨s1.heap.objs.size + 1, [s1.heap.objs.size + 1, s1.heap.objs.size], _, _, H1, rfl, I2, turn_enum a (s1.heap.objs.size + 1) s1.heap.objs.size, ⟨⟨.none, he⟩, hit, Nat.succ_ne_self _⟩, fp, q⟩
    · obtain ⟨its, rv, p', hz⟩ := I1.tuple hq
      refine enum1_begins (begins_tuple a its.toArray) p' fun h' he hit hsz hk => wpAny_pyIter_enum he ?_
      have I2 : Inv X pins σ H1 { s1 with heap := h' } := I1.kept (t' := s1.toks) hk
      exact ⟨s1.heap.objs.size + 1, [s1.heap.objs.size + 1, s1.heap.objs.size], _, _, H1, rfl, I2, turn_enumT a (s1.heap.objs.size + 1) s1.heap.objs.size, ⟨⟨.none, he⟩, ⟨_, hit, rfl, rfl⟩, Nat.succ_ne_self _⟩, fp, q⟩
/-! ### what is walked, as data -/
/-- J walks the data zs, wherever the data of B stand -/
structure Walks (K : PySem.W.Frag) (J : It) (B : Hp) (zs : List D) : Prop where
  go : ∀ (i : Nat) (H : Hp), (∀ a o, B a = some o → H a = some o) → i < zs.length → J.go i H
  stop : ∀ (H : Hp), (∀ a o, B a = some o → H a = some o) → J.stop zs.length H
  yld : ∀ (i : Nat) (H : Hp) (x : V) (H' : Hp) (d : D), (∀ a o, B a = some o → H a = some o) → zs[i]? = some d → J.yld i H x H' →
    (H' = H ∧ Dq K B x d) ∨ ∃ p vs ds, x = .ref p ∧ d = .tuple ds ∧ H p = none ∧ H' = upd H p (.tup vs) ∧ DqAll K B vs ds
theorem DqAll.at {K : PySem.W.Frag} {H : Hp} : ∀ {ds : List D} {vs : List V} {i : Nat} {d : D}, DqAll K H vs ds → ds[i]? = some d → ∃ v, vs[i]? = some v ∧ Dq K H v d
  | [], _, _, _, _, e => by simp at e
  | d :: ds, _, 0, _, h, e => by
    cases h with
    | cons h1 _ => simp at e; subst e; exact ⟨_, rfl, h1⟩
  | d :: ds, _, i + 1, _, h, e => by
    cases h with
    | cons _ h2 =>
      obtain ⟨v, h3, h4⟩ := DqAll.at (i := i) h2 (by simpa using e)
      exact ⟨v, by simpa using h3, h4⟩
theorem SqL_one {K : PySem.W.Frag} {H : Hp} {a : Addr} {xs : List V} (h : H a = some (.lst xs)) : SqL K H a xs := .of h
section
variable {K : PySem.W.Frag} {B : Hp}
theorem walks_list {a : Addr} {vs : List V} {ds : List D} (h : SqL K B a vs) (hd : DqAll K B vs ds) : Walks K (Itl K a) B ds where
  go := fun i H m hi => ⟨vs, vs[i]'(by rw [hd.length]; exact hi), SqL.mono h m, List.getElem?_eq_getElem _⟩
  stop := fun H m => ⟨vs, SqL.mono h m, by rw [hd.length]; exact Nat.le_refl _⟩
  yld := fun i H x H' d m e hy => by
    obtain ⟨v, h1, h2⟩ := DqAll.at hd e
    have := hy.2 vs (SqL.mono h m)
    rw [h1] at this
    cases this
    exact .inl ⟨hy.1, h2⟩
theorem walks_tup {a : Addr} {vs : List V} {ds : List D} (h : SqT K B a vs) (hd : DqAll K B vs ds) : Walks K (Itt K a) B ds where
  go := fun i H m hi => ⟨vs, vs[i]'(by rw [hd.length]; exact hi), SqT.mono h m, List.getElem?_eq_getElem _⟩
  stop := fun H m => ⟨vs, SqT.mono h m, by rw [hd.length]; exact Nat.le_refl _⟩
  yld := fun i H x H' d m e hy => by
    obtain ⟨v, h1, h2⟩ := DqAll.at hd e
    have := hy.2 vs (SqT.mono h m)
    rw [h1] at this
    cases this
    exact .inl ⟨hy.1, h2⟩
theorem rangeI_len : ∀ (n : Nat) (lo : Int), (rangeI lo n).length = n
  | 0, _ => rfl
  | n + 1, lo => by rw [rangeI, List.length_cons, rangeI_len n]
theorem rangeI_at : ∀ (n : Nat) (lo : Int) (i : Nat) (d : D), (rangeI lo n)[i]? = some d → d = .int (lo + i)
  | 0, _, _, _, e => by simp [rangeI] at e
  | n + 1, lo, 0, d, e => by
    simp [rangeI] at e
    rw [← e]
    simp
  | n + 1, lo, i + 1, d, e => by
    have := rangeI_at n (lo + 1) i d (by simpa [rangeI] using e)
    rw [this]
    congr 1
    omega
theorem walks_range {lo : Int} {n : Nat} : Walks K (Itr lo n) B (rangeI lo n) where
  go := fun i H _ hi => by rw [rangeI_len] at hi; exact hi
  stop := fun H _ => by rw [rangeI_len]; exact Nat.le_refl _
  yld := fun i H x H' d _ e hy => by
    rw [rangeI_at _ _ _ _ e]
    obtain ⟨h1, h2⟩ := hy
    subst h2
    exact .inl ⟨h1, .int _⟩
theorem enumD_len : ∀ (ds : List D) (k : Nat), (enumD k ds).length = ds.length
  | [], _ => rfl
  | d :: ds, k => by rw [enumD, List.length_cons, List.length_cons, enumD_len ds]
theorem enumD_at : ∀ (ds : List D) (k i : Nat) (z : D), (enumD k ds)[i]? = some z → ∃ d, ds[i]? = some d ∧ z = .tuple [.int ((k + i : Nat) : Int), d]
  | [], _, _, _, e => by simp [enumD] at e
  | d :: ds, k, 0, z, e => by
    simp [enumD] at e
    exact ⟨d, rfl, by rw [← e]; rfl⟩
  | d :: ds, k, i + 1, z, e => by
    obtain ⟨d', h1, h2⟩ := enumD_at ds (k + 1) i z (by simpa [enumD] using e)
    refine ⟨d', by simpa using h1, ?_⟩
    rw [h2]
    congr 3
    omega
theorem walks_enumL {a : Addr} {vs : List V} {ds : List D} (h : B a = some (.lst vs)) (hd : DqAll K B vs ds) : Walks K (Ite K a) B (enumD 0 ds) where
  go := fun i H m hi => by
    rw [enumD_len] at hi
    exact ⟨vs, vs[i]'(by rw [hd.length]; exact hi), .of (m _ _ h), List.getElem?_eq_getElem _⟩
  stop := fun H m => ⟨vs, .of (m _ _ h), by rw [hd.length, enumD_len]; exact Nat.le_refl _⟩
  yld := fun i H x H' d m e hy => by
    obtain ⟨d', h1, rfl⟩ := enumD_at ds 0 i d e
    obtain ⟨v, h2, h3⟩ := DqAll.at hd h1
    obtain ⟨T, y, e1, e2, e3, e4⟩ := hy
    have := e4 vs (.of (m _ _ h))
    rw [h2] at this
    cases this
    refine .inr ⟨T, _, _, e1, rfl, e2, e3, .cons ?_ (.cons h3 .nil)⟩
    rw [Nat.zero_add]
    exact .int _
theorem walks_enumT {a : Addr} {vs : List V} {ds : List D} (h : SqT K B a vs) (hd : DqAll K B vs ds) : Walks K (IteT K a) B (enumD 0 ds) where
  go := fun i H m hi => by
    rw [enumD_len] at hi
    exact ⟨vs, vs[i]'(by rw [hd.length]; exact hi), SqT.mono h m, List.getElem?_eq_getElem _⟩
  stop := fun H m => ⟨vs, SqT.mono h m, by rw [hd.length, enumD_len]⟩
  yld := fun i H x H' d m e hy => by
    obtain ⟨d', h1, rfl⟩ := enumD_at ds 0 i d e
    obtain ⟨v, h2, h3⟩ := DqAll.at hd h1
    obtain ⟨T, y, e1, e2, e3, e4⟩ := hy
    have := e4 vs (SqT.mono h m)
    rw [h2] at this
    cases this
    refine .inr ⟨T, _, _, e1, rfl, e2, e3, .cons ?_ (.cons h3 .nil)⟩
    rw [Nat.zero_add]
    exact .int _
theorem zipD_len : ∀ (xs ys : List D), (zipD xs ys).length = min xs.length ys.length
  | [], ys => by cases ys <;> simp [zipD]
  | x :: xs, [] => by simp [zipD]
  | x :: xs, y :: ys => by rw [zipD, List.length_cons, List.length_cons, List.length_cons, zipD_len xs ys]; omega
theorem zipD_at : ∀ (xs ys : List D) (i : Nat) (z : D), (zipD xs ys)[i]? = some z → ∃ x y, xs[i]? = some x ∧ ys[i]? = some y ∧ z = .tuple [x, y]
  | [], ys, _, _, e => by cases ys <;> simp [zipD] at e
  | x :: xs, [], _, _, e => by simp [zipD] at e
  | x :: xs, y :: ys, 0, z, e => by
    simp [zipD] at e
    exact ⟨x, y, rfl, rfl, e.symm⟩
  | x :: xs, y :: ys, i + 1, z, e => by
    obtain ⟨a, b, h1, h2, h3⟩ := zipD_at xs ys i z (by simpa [zipD] using e)
    exact ⟨a, b, by simpa using h1, by simpa using h2, h3⟩
theorem walks_zipL {a b : Addr} {vs us : List V} {ds es : List D} (ha : B a = some (.lst vs)) (hb : B b = some (.lst us)) (hd : DqAll K B vs ds) (he : DqAll K B us es) : Walks K (Itz K a b) B (zipD ds es) where
  go := fun i H m hi => by
    rw [zipD_len] at hi
    exact ⟨vs, us, vs[i]'(by rw [hd.length]; omega), us[i]'(by rw [he.length]; omega), .of (m _ _ ha), .of (m _ _ hb), List.getElem?_eq_getElem _, List.getElem?_eq_getElem _⟩
  stop := fun H m => ⟨vs, us, .of (m _ _ ha), .of (m _ _ hb), by rw [zipD_len, hd.length, he.length]; omega⟩
  yld := fun i H x H' d m e hy => by
    obtain ⟨d1, d2, h1, h2, rfl⟩ := zipD_at ds es i d e
    obtain ⟨v1, g1, k1⟩ := DqAll.at hd h1
    obtain ⟨v2, g2, k2⟩ := DqAll.at he h2
    obtain ⟨T, y1, y2, e1, e2, e3, e4, e5⟩ := hy
    have z1 := e4 vs (.of (m _ _ ha))
    have z2 := e5 us (.of (m _ _ hb))
    rw [g1] at z1
    rw [g2] at z2
    cases z1
    cases z2
    exact .inr ⟨T, _, _, e1, rfl, e2, e3, .cons k1 (.cons k2 .nil)⟩
theorem walks_zipT {a b : Addr} {vs us : List V} {ds es : List D} (ha : SqT K B a vs) (hb : SqT K B b us) (hd : DqAll K B vs ds) (he : DqAll K B us es) : Walks K (RZ.ItzT K a b) B (zipD ds es) where
  go := fun i H m hi => by
    rw [zipD_len] at hi
    exact ⟨vs, us, vs[i]'(by rw [hd.length]; omega), us[i]'(by rw [he.length]; omega), SqT.mono ha m, SqT.mono hb m, List.getElem?_eq_getElem _, List.getElem?_eq_getElem _⟩
  stop := fun H m => ⟨vs, us, SqT.mono ha m, SqT.mono hb m, by rw [zipD_len, hd.length, he.length]; omega⟩
  yld := fun i H x H' d m e hy => by
    obtain ⟨d1, d2, h1, h2, rfl⟩ := zipD_at ds es i d e
    obtain ⟨v1, g1, k1⟩ := DqAll.at hd h1
    obtain ⟨v2, g2, k2⟩ := DqAll.at he h2
    obtain ⟨T, y1, y2, e1, e2, e3, e4, e5⟩ := hy
    have z1 := e4 vs (SqT.mono ha m)
    have z2 := e5 us (SqT.mono hb m)
    rw [g1] at z1
    rw [g2] at z2
    cases z1
    cases z2
    exact .inr ⟨T, _, _, e1, rfl, e2, e3, .cons k1 (.cons k2 .nil)⟩
end
end Ev
set_option Elab.async false
set_option linter.all false
set_option maxRecDepth 100000
/-! Ev8b: promises of functions that are called where no repr is under way (guards known to be none): as FnOk, one premise more. -/
namespace Ev
open PySem PySem.Spec PyProof.Rows L2

structure FnG (P : Program) (w : World) (K : PySem.W.Frag) (mg : Str → Option Value) (base : Heap) (k : Nat) (f : Addr) (fd : FuncData) (ps : List Str) (sp : Sp) : Prop where
  len : ∀ vs H Q E, sp vs H Q E → vs.length = ps.length
  run : ∀ (A : Around) (outer : List Env) (s : Shared) (H : Hp) (args : Args) (us : List Value) (vs : List V) (Q : VK) (E : XK), Room k A → A.guards = some [] → Env0 P w K mg base A outer s H → BindsTo s fd args (ps.zip us) → Vals vs us → sp vs H Q E →
    codeAny (model P w) A (.call (.ref f) args) (CR (L2.CX P w) outer P w H s Q E) s
section
variable {P : Program} {w : World} {K : PySem.W.Frag} {mg : Str → Option Value} {base : Heap}
theorem fn_ofG {k : Nat} {f : Addr} {name qual : Str} {params : Arguments} {body : List Stmt} {scope : Scope} {dV kV doc pm cdv ct oc : Value} {an od : Option Addr}
    {osl : Array (Option Value)} {N ps : List Str} {sp : Sp} (lk : K.lookup f = some ⟨oc, od, .func (PySem.W.fnOf name qual params body scope dV kV doc pm an cdv ct), osl⟩) (hcd : PySem.W.codeIn K cdv qual = true) (S : FnScope N ps scope)
    (len : ∀ vs H Q E, sp vs H Q E → vs.length = ps.length)
    (hbody : ∀ (A : Around) (outer : List Env) (s : Shared) (H : Hp) (vs : List V) (Q : VK) (E : XK), Room k (A.deeper (envOfC qual scope s.heap.objs.size f cdv)) → A.guards = some [] → sp vs H Q E →
      ∃ t, PSs (cxOf (L2.CX P w) P w K mg base N qual scope f cdv A outer s H E) body t ∧ t { nx := fun _ H' => Q .non H', rt := Q } (L2.start N vs) H) :
    FnG P w K mg base (k + 1) f (PySem.W.fnOf name qual params body scope dV kV doc pm an cdv ct) ps sp := by
  refine ⟨len, fun A outer s H args us vs Q E hr hgd e0 hb r hsp => ?_⟩
  have hl := len _ _ _ _ hsp
  have KX : K.In s.heap := e0.mod.kin.keeps fun b o e => (e0.bs b o e).1
  have lim : s.heap.NoLimit := e0.mod.nolimit.keeps fun b o e => (e0.bs b o e).1
  refine codeAny_call_function hr.depth (KX _ _ lk) rfl S.co S.gen rfl (PySem.W.codeRec_of KX hcd) (hb _ _ _ _ ?_)
  refine wpAny_newFunctionEnv_cells S.kind (fun ⟨n, v⟩ hy => (S.par n (List.of_mem_zip hy).1).imp id fun q => ⟨q, PySem.W.cellsFrom_some _ _ _ (.inl q)⟩) fun env he s1 x => ?_
  subst he
  refine ⟨lim.keeps x.toInCall.keep, codeAny_func ?_⟩
  obtain ⟨t, ht, hq⟩ := hbody A outer s H vs Q E (hr.deeper _) hgd hsp
  refine wpAny_mono (ht.run [] s1 (L2.start N vs) H _ (inv_start S hr.hd e0 hl r x) hq) (fun fl s' hs => ?_) fun e s' hs => hs
  cases fl with
  | ret u =>
    obtain ⟨v, σ', H', J, rv, q⟩ := hs
    exact ⟨v, H', J.os, J.bare, J.base, J.hok, rv, q⟩
  | next =>
    obtain ⟨σ', H', J, q⟩ := hs
    exact ⟨V.non, H', J.os, J.bare, J.base, J.hok, rfl, q⟩
  | brk =>
    obtain ⟨_, _, _, q⟩ := hs
    exact q.elim
  | cont =>
    obtain ⟨_, _, _, q⟩ := hs
    exact q.elim
theorem fun_okG {x qual : Str} {params : Arguments} {body : List Stmt} {scope : Scope} {kws : List (Str × V)} {dvs : List V} {f : Addr} {fd : FuncData} {N ps : List Str} {k : Nat} {sp : Sp} (F : FunD K x qual params body scope dvs kws f fd) (S : FnScope N ps scope) (len : ∀ vs H Q E, sp vs H Q E → vs.length = ps.length)
    (hbody : ∀ (cdv : Value) (A : Around) (outer : List Env) (s : Shared) (H : Hp) (vs : List V) (Q : VK) (E : XK), Room k (A.deeper (envOfC qual scope s.heap.objs.size f cdv)) → A.guards = some [] → sp vs H Q E →
      ∃ t, PSs (cxOf (L2.CX P w) P w K mg base N qual scope f cdv A outer s H E) body t ∧ t { nx := fun _ H' => Q .non H', rt := Q } (L2.start N vs) H) : FnG P w K mg base (k + 1) f fd ps sp := by
  obtain ⟨oc, od, dV, kV, doc, pm, an, cdv, ct, osl, rfl, lk, hcd, _⟩ := F.ex
  exact fn_ofG lk hcd S len fun A outer s H vs Q E hr hg hsp => hbody cdv A outer s H vs Q E hr hg hsp
end
section
variable {X : Cx} {k : Nat} {f : Addr} {fd : FuncData} {ps : List Str} {sp : Sp} {E : L2.St → XK} {x : Str} {p pos : Pos} {e : Expr} {es : List Expr} {t : TA}
theorem run_fnG {pins : List (Addr × Obj)} {σ : L2.St} {H : Hp} {s : Shared} {Q : VK} {us : List Value} {vs : List V} (F : FnG X.prog X.w X.K X.mg X.base k f fd ps sp) (hr : Room k X.A) (hgd : X.A.guards = some []) (hb : Binds X.K fd ps []) (hx : PassesAt (L2.CX X.prog X.w) X σ (E σ))
    (I : L2.Inv X pins σ H s) (r : Vals vs us) (h : sp vs H Q (E σ)) : wpAny (model X.prog X.w) X.A (call (.ref f) us) (EP X pins σ Q) X.xe s := by
  have b := hb s us I.kIn (by rw [List.append_nil, ← r.length]; exact F.len _ _ _ _ h)
  rw [List.append_nil] at b
  refine wpAny_call (codeAny_mono (F.run X.A X.stack s H ⟨us, []⟩ us vs Q (E σ) hr hgd I.env0 b r h) fun r s' hq => ?_)
  rcases r with z | fl
  · exact hx pins H s _ s' I hq
  · cases fl with
    | ret u => exact I.after hq
    | next => exact hq.elim
    | brk => exact hq.elim
    | cont => exact hq.elim
theorem pe_callG (F : FnG X.prog X.w X.K X.mg X.base k f fd ps sp) (hr : Room k X.A) (hgd : X.A.guards = some []) (hg : Gl X x) (hm : X.mg x = some (.ref f)) (hk : PySem.W.keepIn X.K (.ref f) = true) (hb : Binds X.K fd ps []) (hx : ∀ σ, PassesAt (L2.CX X.prog X.w) X σ (E σ))
    (ha : PA X (e :: es) t) (hdb : (x == ("__debug__" : Str)) = false) (he : starEach (e :: es) X.env = (false, eval e X.env) :: starEach es X.env) (hpl : (backTo pos (starEach es X.env)).any (·.1) = false) :
    PE X (.Call (.Name x p) (e :: es) [] pos) (tCallS sp E t) := by
  refine ⟨fun pins s σ H Q I h => ?_⟩
  refine wpAny_Call_Name_kw (ld_glob I hg hm ?_ hdb)
  refine PySem.W.callWith_K (h₀ := X.base) I.ok.mod.kin hk (thn (ha.run pos pins s σ H _ I h) fun us s1 ⟨vs, H1, I1, r, q⟩ => ⟨I1.kIn, ?_⟩) he hpl
  exact run_fnG F hr hgd hb (hx σ) I1 r q
theorem pe_call0G (F : FnG X.prog X.w X.K X.mg X.base k f fd ps sp) (hr : Room k X.A) (hgd : X.A.guards = some []) (hg : Gl X x) (hm : X.mg x = some (.ref f)) (hk : PySem.W.keepIn X.K (.ref f) = true) (hb : Binds X.K fd ps [])
    (hx : ∀ σ, PassesAt (L2.CX X.prog X.w) X σ (E σ)) (hdb : (x == ("__debug__" : Str)) = false) : PE X (.Call (.Name x p) [] [] pos) (fun σ H Q => sp [] H Q (E σ)) := by
  refine ⟨fun pins s σ H Q I h => ?_⟩
  refine wpAny_Call_Name_kw (ld_glob I hg hm ?_ hdb)
  exact PySem.W.callWith_K0 I.kIn hk (run_fnG (us := []) F hr hgd hb (hx σ) I .nil h)
end
end Ev
set_option Elab.async false
set_option linter.all false
set_option maxRecDepth 100000
/-! Ev9: a body's text against its resolved form (chk); what the context gives (G). -/
namespace Ev
open PySem PySem.Spec PyProof.Rows L2

/-! ### the check -/
structure Tx where
  nm : Nat → Option Str
  gn : Nat → Option Str
def freeNames : List Str := ["len", "abs", "int", "str", "max", "min", "tuple", "list", "sorted", "any", "all", "sum", "repr", "range", "enumerate", "zip", "isinstance", "dict", "set", "bool"]
def visB (sc : Scope) (x : Str) : Bool :=
  match sc.names.lookup x with
  | some .local => true
  | some .cell => true
  | some .free => true
  | _ => false
def locB (sc : Scope) (x : Str) : Bool :=
  match sc.names.lookup x with
  | some .local => true
  | some .cell => true
  | _ => false
def gloB (sc : Scope) (x : Str) : Bool := decide (sc.names.lookup x = some .globalImplicit)
def notDbg (x : Str) : Bool := !(x == ("__debug__" : Str)) && !(x == ("__classdict__" : Str))
def starB : Expr → Bool
  | .Starred _ _ => true
  | _ => false
def sliceB : Expr → Bool
  | .Slice _ _ _ _ => true
  | _ => false
def setB : Expr → Bool
  | .Set _ _ _ => true
  | _ => false
def call0B : Expr → Bool
  | .Call _ _ _ _ => true
  | _ => false
def ifB : Expr → Bool
  | .IfExp _ _ _ _ => true
  | _ => false
def conB : D → Const → Bool
  | .none, .none => true
  | .bool b, .bool c => b == c
  | .int i, .int j => decide (i = j)
  | .str x, .str y => decide (x = y)
  | _, _ => false
def keyD : Key → D
  | .inl i => .int i
  | .inr x => .str x
def keysB : List Key → List (Option Expr) → Bool
  | [], [] => true
  | k :: ks, some (.Constant c _ _) :: r => conB (keyD k) c && keysB ks r
  | _, _ => false
def biName : Bi → Str
  | .len => "len"
  | .abs => "abs"
  | .int => "int"
  | .str => "str"
  | .max2 => "max"
  | .min2 => "min"
  | .maxL => "max"
  | .minL => "min"
  | .tuple => "tuple"
  | .list => "list"
  | .sorted => "sorted"
  | .any => "any"
  | .all => "all"
  | .sum => "sum"
  | .repr => "repr"
def tyName : Ty → String
  | .int => "int"
  | .bool => "bool"
  | .str => "str"
  | .tuple => "tuple"
  | .list => "list"
  | .dict => "dict"
def tyStr : Ty → Str
  | .int => "int"
  | .bool => "bool"
  | .str => "str"
  | .tuple => "tuple"
  | .list => "list"
  | .dict => "dict"
def mtName : Mt → Str
  | .append => "append"
  | .pop0 => "pop"
  | .pop1 => "pop"
  | .extend => "extend"
  | .index => "index"
  | .insert => "insert"
  | .join => "join"
def noStars : List Expr → Bool
  | [] => true
  | e :: es => !starB e && noStars es
def tgSlots : Tg → List Nat
  | .name i => [i]
  | .nil => []
  | .cons a b => tgSlots a ++ tgSlots b
def chkTg (N : List Str) (sc : Scope) (fk : Str → Bool) : Tg → Expr → Bool
  | .name i, e => match e with
    | .Name x _ => decide (N[i]? = some x) && locB sc x && (fk x || decide (sc.names.lookup x = some .local))
    | _ => false
  | .nil, e => match e with
    | .Tuple [] _ _ => true
    | _ => false
  | .cons a b, e => match e with
    | .Tuple (x :: xs) k p => !starB x && chkTg N sc fk a x && chkTg N sc fk b (.Tuple xs k p)
    | _ => false
def isRng : I → Bool
  | .rng1 _ => true
  | .rng2 _ _ => true
  | _ => false
def relS' (scope sc : Scope) : Scope := relS scope sc
def ownP (N : List Str) (own : List Nat) : List (Str × Nat) := own.map fun i => (N.getD i (Str.ofString ""), i)
def blkFk (scope : Scope) (x : Str) : Bool := scope.names.lookup x == some .cell
mutual
def chkE (T : Tx) (N : List Str) (sc : Scope) (fk : Str → Bool) : E → Expr → Bool
  | .con c, e => match e with
    | .Constant k _ _ => conB c k
    | _ => false
  | .loc i, e => match e with
    | .Name x _ => decide (N[i]? = some x) && visB sc x && notDbg x
    | _ => false
  | .glo i, e => match e with
    | .Name x _ => decide (T.gn i = some x) && gloB sc x && notDbg x
    | _ => false
  | .tup es, e => match e with
    | .Tuple l _ _ => chkEs T N sc fk es l
    | _ => false
  | .lst _ es, e => match e with
    | .List l _ => chkEs T N sc fk es l
    | _ => false
  | .bin _ o a b, e => match e with
    | .BinOp a' o' b' _ => decide (o' = opOf o) && chkE T N sc fk a a' && chkE T N sc fk b b'
    | _ => false
  | .neg a, e => match e with
    | .UnaryOp .USub a' _ => chkE T N sc fk a a'
    | _ => false
  | .not a, e => match e with
    | .UnaryOp .Not a' _ => chkE T N sc fk a a' && !ifB a'
    | _ => false
  | .cmp o a b, e => match e with
    | .Compare a' [o'] [b'] _ => decide (o' = copOf o) && chkE T N sc fk a a' && chkE T N sc fk b b' && !behindInMarks o' b'
    | _ => false
  | .cmp2 o p a b c, e => match e with
    | .Compare a' [o', p'] [b', c'] _ => decide (o' = copOf o) && decide (p' = copOf p) && chkE T N sc fk a a' && chkE T N sc fk b b' && chkE T N sc fk c c' && !behindInMarks p' c'
    | _ => false
  | .and a b, e => match e with
    | .BoolOp .And (x :: y :: r) p => chkE T N sc fk a x && !ifB x && (match r with
      | [] => chkE T N sc fk b y && !ifB y
      | z :: r' => chkE T N sc fk b (.BoolOp .And (y :: z :: r') p))
    | _ => false
  | .or a b, e => match e with
    | .BoolOp .Or (x :: y :: r) p => chkE T N sc fk a x && !ifB x && (match r with
      | [] => chkE T N sc fk b y && !ifB y
      | z :: r' => chkE T N sc fk b (.BoolOp .Or (y :: z :: r') p))
    | _ => false
  | .ite c a b, e => match e with
    | .IfExp c' a' b' _ => chkE T N sc fk c c' && !ifB c' && chkE T N sc fk a a' && chkE T N sc fk b b'
    | _ => false
  | .isN a, e => match e with
    | .Compare a' [.Is] [.Constant .none _ _] _ => chkE T N sc fk a a'
    | _ => false
  | .isNN a, e => match e with
    | .Compare a' [.IsNot] [.Constant .none _ _] _ => chkE T N sc fk a a'
    | _ => false
  | .call f es, e => match e with
    | .Call (.Name x _) l [] _ => decide (T.nm f = some x) && gloB sc x && notDbg x && noStars l && chkEs T N sc fk es l
    | _ => false
  | .bi _ b es, e => match e with
    | .Call (.Name x _) l [] _ => decide (x = biName b) && gloB sc x && noStars l && !l.isEmpty && chkEs T N sc fk es l
    | _ => false
  | .mt _ m o es, e => match e with
    | .Call (.Attribute o' x ap) l [] cp => decide (x = mtName m) && chkE T N sc fk o o' && !call0B o' && (ap.endLine == cp.line) && decide (l.length < 20) && noStars l && chkEs T N sc fk es l
    | _ => false
  | .idx a b, e => match e with
    | .Subscript a' b' _ => chkE T N sc fk a a' && chkE T N sc fk b b' && !sliceB b'
    | _ => false
  | .slc _ a lo hi, e => match e with
    | .Subscript a' (.Slice lo' hi' none _) _ => chkE T N sc fk a a' && chkEo T N sc fk lo lo' && chkEo T N sc fk hi hi'
    | _ => false
  | .rev _ a, e => match e with
    | .Subscript a' (.Slice none none (some (.UnaryOp .USub (.Constant (.int k) _ _) _)) _) _ => decide (k = 1) && chkE T N sc fk a a'
    | _ => false
  | .lrng _ it, e => match e with
    | .Call (.Name x _) [.Call f a k q] [] _ => decide (x = ("list" : Str)) && gloB sc x && isRng it && chkI T N sc fk it (.Call f a k q) (.Name x q)
    | _ => false
  | .lc _ x own g it c, e => match e with
    | .ListComp x' [⟨g', it', cs, k⟩] scope _ => decide (k = 0) && blkC N sc scope (ownP N own) && (tgSlots g).all (fun i => own.contains i) &&
      chkTg N (relS scope sc) (blkFk scope) g g' && chkI T N sc fk it it' g' && !setB it' &&
      (match cs with
      | [] => chkEo T N (relS scope sc) (blkFk scope) c none
      | [c'] => chkEo T N (relS scope sc) (blkFk scope) c (some c') && !ifB c'
      | _ => false) && chkE T N (relS scope sc) (blkFk scope) x x'
    | _ => false
  | .lc2 _ _ _ _ _ _ _ _ _, _ => false
  | .dct ks es, e => match e with
    | .Dict keys vs _ => keysB ks keys && noStars vs && decide (keys.length ≤ 15) && decide (keys.length = vs.length) && chkEs T N sc fk es vs
    | _ => false
  | .dc k v own g it c, e => match e with
    | .DictComp k' v' [⟨g', it', cs, z⟩] scope _ => decide (z = 0) && blkC N sc scope (ownP N own) && (tgSlots g).all (fun i => own.contains i) &&
      chkTg N (relS scope sc) (blkFk scope) g g' && chkI T N sc fk it it' g' && !setB it' &&
      (match cs with
      | [] => chkEo T N (relS scope sc) (blkFk scope) c none
      | [c'] => chkEo T N (relS scope sc) (blkFk scope) c (some c') && !ifB c'
      | _ => false) && chkE T N (relS scope sc) (blkFk scope) k k' && chkE T N (relS scope sc) (blkFk scope) v v'
    | _ => false
  | .sset _ a, e => match e with
    | .Call (.Name x _) [.Call (.Name y _) [a'] [] _] [] _ => decide (x = ("sorted" : Str)) && decide (y = ("set" : Str)) && gloB sc x && gloB sc y && !starB a' && chkE T N sc fk a a'
    | _ => false
  | .isi a ts, e => match ts, e with
    | [t], .Call (.Name x _) [a', .Name y _] [] _ => decide (x = ("isinstance" : Str)) && decide (y = tyStr t) && gloB sc x && gloB sc y && !starB a' && chkE T N sc fk a a'
    | _, _ => false
  | .fld _ _, _ => false
  | .gidx i a, e => match e with
    | .Call (.Attribute (.Name x _) y ap) [a'] [] cp => decide (T.gn i = some x) && gloB sc x && notDbg x && decide (y = ("index" : Str)) && (ap.endLine == cp.line) && !starB a' && chkE T N sc fk a a'
    | _ => false
def chkEo (T : Tx) (N : List Str) (sc : Scope) (fk : Str → Bool) : Eo → Option Expr → Bool
  | .none, e => match e with
    | none => true
    | _ => false
  | .some a, e => match e with
    | some e => chkE T N sc fk a e
    | none => false
def chkEs (T : Tx) (N : List Str) (sc : Scope) (fk : Str → Bool) : Es → List Expr → Bool
  | .nil, l => match l with
    | [] => true
    | _ => false
  | .cons a es, l => match l with
    | e :: r => !starB e && chkE T N sc fk a e && chkEs T N sc fk es r
    | _ => false
  | .star a es, l => match l with
    | .Starred e _ :: r => chkE T N sc fk a e && chkEs T N sc fk es r
    | _ => false
def chkI (T : Tx) (N : List Str) (sc : Scope) (fk : Str → Bool) : I → Expr → Expr → Bool
  | .ex a, e, _ => chkE T N sc fk a e
  | .rng1 a, e, _ => match e with
    | .Call (.Name x _) [a'] [] _ => decide (x = ("range" : Str)) && gloB sc x && !starB a' && chkE T N sc fk a a'
    | _ => false
  | .rng2 a b, e, _ => match e with
    | .Call (.Name x _) [a', b'] [] _ => decide (x = ("range" : Str)) && gloB sc x && !starB a' && !starB b' && chkE T N sc fk a a' && chkE T N sc fk b b'
    | _ => false
  | .enm a, e, tg => match tg with
    | .Tuple _ _ _ => (match e with
      | .Call (.Name x _) [a'] [] _ => decide (x = ("enumerate" : Str)) && gloB sc x && !starB a' && chkE T N sc fk a a'
      | _ => false)
    | _ => false
  | .zip s a b, e, tg => match tg with
    | .Tuple _ _ _ => (match e with
      | .Call (.Name x _) [a', b'] [] _ => !s && decide (x = ("zip" : Str)) && gloB sc x && !starB a' && !starB b' && chkE T N sc fk a a' && chkE T N sc fk b b'
      | _ => false)
    | _ => false
end

/-! ### the context -/
def kEx (cls : Nat → Addr) (W : WX) (σ : L2.St) : XW := fun c d H => W (.ref (cls c)) d σ H
def spOf (K : PySem.W.Frag) (cls : Nat → Addr) (call : Nat → List Val → Sto → R Val) (f : Nat) : Sp := fun vs H Q E =>
  ∃ as st φ Hf F, RS K φ Hf F st H ∧ RVs K φ st.length Hf as vs ∧ Out K F (fun c d H' => E (.ref (cls c)) d H') φ Hf st.length (call f as st) (kQ K Q)
/-- a place of the written part that is a tuple without a dict -/
def GK (K : PySem.W.Frag) (v : V) : Prop := ∀ a, v = V.ref a → ∃ o, K.lookup a = some o ∧ o.cls = .type "tuple" ∧ o.dict = none
structure G (T : Tx) (cls : Nat → Addr) (ck : Ck) (N : List Str) (sc : Scope) (fk : Str → Bool) (W : WX) (X : Cx) : Prop where
  hN : X.N = N
  nd : N.Nodup
  hs : X.env.scope = sc
  kd : sc.kind = .function
  hf : X.fn = fk
  calm : X.calm = true
  gd : X.A.guards = some []
  un : X.A.units + 65 < cLine
  free : ∀ x, x ∈ freeNames → X.mg x = none
  glo : ∀ (i : Nat) (x : Str) (d : D), T.gn i = some x → ck.glo i = some d → ∃ u v, X.mg x = some u ∧ RelV v u ∧ Dq X.K (fun _ => none) v d ∧ GK X.K v
  fns : ∀ (f : Nat) (x : Str), T.nm f = some x → ∃ k fa fd ps, Room k X.A ∧ X.mg x = some (.ref fa) ∧ PySem.W.keepIn X.K (.ref fa) = true ∧ Binds X.K fd ps [] ∧
    FnG X.prog X.w X.K X.mg X.base k fa fd ps (spOf X.K cls ck.call f)
  pas : ∀ σ, PassesAt (L2.CX X.prog X.w) X σ (WE W σ)
def WNo : WX := fun _ _ _ _ => False
def tQ {α β : Type} (X : Cx) (cls : Nat → Addr) (W : WX) (f : Slots → Sto → R α) (rep : α → Sto → (Nat → Addr) → Hp → β → Prop) : L2.St → Hp → (β → Hp → Prop) → Prop := fun σ H Q =>
  ∃ en st φ Hf F, RE X.K φ st.length Hf en σ ∧ RS X.K φ Hf F st H ∧ Out X.K F (kEx cls W σ) φ Hf st.length (f en st) (fun a st' φ' Hf' H' => ∀ b, rep a st' φ' Hf' b → Q b H')
abbrev pV (K : PySem.W.Frag) : Val → Sto → (Nat → Addr) → Hp → V → Prop := fun a st φ Hf v => RV K φ st.length Hf a v
abbrev pVs (K : PySem.W.Frag) : List Val → Sto → (Nat → Addr) → Hp → List V → Prop := fun a st φ Hf v => RVs K φ st.length Hf a v
abbrev pT : Val → Sto → (Nat → Addr) → Hp → Bool → Prop := fun a st _ _ b => truthV a st = some b
/-- a value whose truth is known -/
def kT (Q : Bool → Hp → Prop) : KT Val := fun v st' _ _ H' => ∃ b, truthV v st' = some b ∧ Q b H'
def tE (X : Cx) (cls : Nat → Addr) (ck : Ck) (W : WX) (x : E) : TE := fun σ H Q =>
  ∃ en st φ Hf F, RE X.K φ st.length Hf en σ ∧ RS X.K φ Hf F st H ∧ Out X.K F (kEx cls W σ) φ Hf st.length (evE ck x en st) (kQ X.K Q)
def tT (X : Cx) (cls : Nat → Addr) (ck : Ck) (W : WX) (x : E) : TT := fun σ H Q =>
  ∃ en st φ Hf F, RE X.K φ st.length Hf en σ ∧ RS X.K φ Hf F st H ∧ Out X.K F (kEx cls W σ) φ Hf st.length (evE ck x en st) (kT Q)
def kVs (K : PySem.W.Frag) (Q : List V → Hp → Prop) : KT (List Val) := fun vs st' φ' Hf' H' => ∀ ws, RVs K φ' st'.length Hf' vs ws → Q ws H'
def tEs (X : Cx) (cls : Nat → Addr) (ck : Ck) (W : WX) (x : Es) : TA := fun σ H Q =>
  ∃ en st φ Hf F, RE X.K φ st.length Hf en σ ∧ RS X.K φ Hf F st H ∧ Out X.K F (kEx cls W σ) φ Hf st.length (evEs ck x en st) (kVs X.K Q)
def tEo (X : Cx) (cls : Nat → Addr) (ck : Ck) (W : WX) (x : Eo) : TO := fun σ H Q =>
  ∃ en st φ Hf F, RE X.K φ st.length Hf en σ ∧ RS X.K φ Hf F st H ∧ Out X.K F (kEx cls W σ) φ Hf st.length (evEo ck x en st) (fun o _ _ _ H' => Q o H')
def SrcOk (K : PySem.W.Frag) (φ : Nat → Addr) (Hf : Hp) : Src → It → Prop
  | .stat zs, J => Walks K J Hf zs
  | .live i, J => J = Itl K (φ i)
def tI (X : Cx) (cls : Nat → Addr) (ck : Ck) (W : WX) (x : I) : TI := fun σ H R =>
  ∃ en st φ Hf F, RE X.K φ st.length Hf en σ ∧ RS X.K φ Hf F st H ∧ Out X.K F (kEx cls W σ) φ Hf st.length (evI ck x en st) (fun s st' φ' Hf' H' => (∀ i, s = .live i → i < st'.length ∧ (itemsAt st' i).isSome = true) → ∀ J, SrcOk X.K φ' Hf' s J → R J H')
theorem PE.weak {X : Cx} {e : Expr} {t t' : TE} (h : PE X e t) (m : ∀ σ H Q, t' σ H Q → t σ H Q) : PE X e t' := ⟨fun pins s σ H Q I q => h.run pins s σ H Q I (m σ H Q q)⟩
theorem PT.weak {X : Cx} {e : Expr} {t t' : TT} (h : PT X e t) (m : ∀ σ H Q, t' σ H Q → t σ H Q) : PT X e t' := ⟨fun pins s σ H Q I q => h.run pins s σ H Q I (m σ H Q q)⟩
theorem PW.weak {X : Cx} {e : Expr} {t t' : TT} (h : PW X e t) (m : ∀ σ H Q, t' σ H Q → t σ H Q) : PW X e t' := ⟨fun w pins s σ H Q I q => h.run w pins s σ H Q I (m σ H Q q)⟩
theorem PA.weak {X : Cx} {e : List Expr} {t t' : TA} (h : PA X e t) (m : ∀ σ H Q, t' σ H Q → t σ H Q) : PA X e t' := ⟨fun pos pins s σ H Q I q => h.run pos pins s σ H Q I (m σ H Q q)⟩
theorem PI.weak {X : Cx} {g e : Expr} {t t' : TI} (h : PI X g e t) (m : ∀ σ H Q, t' σ H Q → t σ H Q) : PI X g e t' := ⟨fun pins s σ H Q I q => h.run pins s σ H Q I (m σ H Q q)⟩
theorem star_of {e : Expr} (h : starB e = false) (es : List Expr) (env : Env) : starEach (e :: es) env = (false, eval e env) :: starEach es env := by
  cases e <;> first | rfl | cases h
theorem noStars_any {pos : Pos} {env : Env} : ∀ {es : List Expr}, noStars es = true → (backTo pos (starEach es env)).any (·.1) = false
  | [], _ => rfl
  | e :: es, h => by
    unfold noStars at h
    rw [Bool.and_eq_true] at h
    have h1 : starB e = false := by
      have := h.1
      cases hs : starB e
      · rfl
      · rw [hs] at this; cases this
    rw [star_of h1]
    have ih := noStars_any (pos := pos) (env := env) h.2
    unfold backTo at ih ⊢
    rw [List.map_cons, List.any_cons, ih]
    rfl
theorem base_of {o : Expr} {x : Str} {env : Env} (h : call0B o = false) : attributeBase o x env (eval o env) = eval o env := by
  cases o <;> first | rfl | cases h
theorem plain_of {b : Expr} (h : sliceB b = false) : PlainIx b := by
  intro o i
  cases b <;> first | rfl | cases h
end Ev
set_option Elab.async false
set_option linter.all false
set_option maxRecDepth 100000
/-! Ev10: expressions but comprehensions: what the resolved form does is what the text does. -/
namespace Ev
open PySem PySem.Spec PyProof.Rows L2

structure SE (X : Cx) (cls : Nat → Addr) (ck : Ck) (W : WX) (x : E) (e : Expr) : Prop where
  pe : PE X e (tE X cls ck W x)
  pt : ifB e = false → PT X e (tT X cls ck W x)
  pw : ∀ op l pos, e = .BoolOp op l pos → PW X e (tT X cls ck W x)
section
variable {X : Cx} {cls : Nat → Addr} {ck : Ck} {W : WX}
theorem pt_gen {x : E} {e : Expr} (h : PE X e (tE X cls ck W x)) (he : ∀ whole, isTrue e X.env whole = (do let v ← whole; standAt e.pos; holding [v] (truthy v))) : PT X e (tT X cls ck W x) :=
  PT.weak (pt_truthR h tru_val he) fun σ H Q ⟨en, st, φ, Hf, F, re, rs, out⟩ => ⟨en, st, φ, Hf, F, re, rs, out.mono fun v st' φ' Hf' H' _ rs' ⟨b, hb, q⟩ V rv => ⟨v, st', φ', Hf', F, b, rs', rv, hb, q⟩⟩
theorem SE.gen {x : E} {e : Expr} (h : PE X e (tE X cls ck W x)) (he : ∀ whole, isTrue e X.env whole = (do let v ← whole; standAt e.pos; holding [v] (truthy v))) (hn : ∀ op l pos, e ≠ .BoolOp op l pos) : SE X cls ck W x e :=
  ⟨h, fun _ => pt_gen h he, fun op l pos z => absurd z (hn op l pos)⟩
/-- a test by its value alone -/
theorem pt_cmpT {x : E} {e : Expr} {te : TE} (h : PT X e (tTest te)) (m : ∀ σ H Q, tE X cls ck W x σ H Q → te σ H Q) (hb : ∀ en st v st', evE ck x en st = .ok v st' → ∃ k, v = .d (.bool k)) : PT X e (tT X cls ck W x) :=
  PT.weak h fun σ H Q ⟨en, st, φ, Hf, F, re, rs, out⟩ => m _ _ _ ⟨en, st, φ, Hf, F, re, rs, by
    cases hr : evE ck x en st with
    | no => rw [hr] at out; exact out
    | ex c fs st' => rw [hr] at out; exact out
    | ok v st' =>
      rw [hr] at out
      obtain ⟨k, rfl⟩ := hb _ _ _ _ hr
      intro φ' Hf' H' u' rs' V rv
      obtain ⟨b, hb, q⟩ := out φ' Hf' H' u' rs'
      cases hb
      cases rv
      exact ⟨k, rfl, q⟩⟩
theorem R.bind_ok {α β : Type} {r : R α} {f : α → Sto → R β} {b : β} {st : Sto} (h : r.bind f = .ok b st) : ∃ a st1, r = .ok a st1 ∧ f a st1 = .ok b st := by
  cases r with
  | ok a st1 => exact ⟨a, st1, rfl, h⟩
  | ex _ _ _ => cases h
  | no => cases h
theorem R.ofO_ok {α : Type} {o : Option α} {a : α} {st st' : Sto} (h : R.ofO o st = .ok a st') : o = some a ∧ st' = st := by
  cases o with
  | none => cases h
  | some b => cases h; exact ⟨rfl, rfl⟩

variable {T : Tx} {N : List Str} {sc : Scope} {fk : Str → Bool}
theorem se_con (c : D) {e : Expr} (h : chkE T N sc fk (.con c) e = true) : SE X cls ck W (.con c) e := by
  simp only [chkE] at h
  split at h
  · rename_i k j pos
    have key : PE X (.Constant k j pos) (tE X cls ck W (.con c)) := by
      unfold conB at h
      split at h
      · exact PE.weak pe_non fun σ H Q ⟨en, st, φ, Hf, F, re, rs, out⟩ => out.here rs _ .non
      · rename_i b c'
        have := eq_of_beq h
        subst this
        exact PE.weak pe_bl fun σ H Q ⟨en, st, φ, Hf, F, re, rs, out⟩ => out.here rs _ (.bl _)
      · have := of_decide_eq_true h
        subst this
        exact PE.weak pe_int fun σ H Q ⟨en, st, φ, Hf, F, re, rs, out⟩ => out.here rs _ (.int _)
      · have := of_decide_eq_true h
        subst this
        exact PE.weak pe_str fun σ H Q ⟨en, st, φ, Hf, F, re, rs, out⟩ => out.here rs _ (.str _)
      · cases h
    exact .gen key (fun _ => rfl) fun _ _ _ z => by cases z
  · cases h
theorem vis_of {sc : Scope} {x : Str} (h : visB sc x = true) : Vis sc x := by
  unfold visB at h
  unfold Vis
  split at h
  · rename_i e; exact .inl e
  · rename_i e; exact .inr (.inl e)
  · rename_i e; exact .inr (.inr e)
  · cases h
theorem loc_of {sc : Scope} {x : Str} (h : locB sc x = true) : L2.Loc sc x := by
  unfold locB at h
  unfold L2.Loc
  split at h
  · rename_i e; exact .inl e
  · rename_i e; exact .inr e
  · cases h
theorem dbg_of {x : Str} (h : notDbg x = true) : (x == ("__debug__" : Str)) = false ∧ (x == ("__classdict__" : Str)) = false := by
  unfold notDbg at h
  rw [Bool.and_eq_true, Bool.not_eq_true', Bool.not_eq_true'] at h
  exact h
theorem se_loc (g : G T cls ck N sc fk W X) (i : Nat) {e : Expr} (h : chkE T N sc fk (.loc i) e = true) : SE X cls ck W (.loc i) e := by
  simp only [chkE] at h
  split at h
  · rename_i x pos
    rw [Bool.and_eq_true, Bool.and_eq_true, decide_eq_true_eq] at h
    obtain ⟨⟨h1, h2⟩, h3⟩ := h
    obtain ⟨d1, d2⟩ := dbg_of h3
    refine .gen (PE.weak (pe_var (i := i) (by rw [g.hN]; exact h1) (by rw [g.hs]; exact vis_of h2) d1 d2) fun σ H Q ⟨en, st, φ, Hf, F, re, rs, out⟩ => ?_) (fun _ => rfl) fun _ _ _ z => by cases z
    simp only [evE] at out
    split at out
    · rename_i v hv
      obtain ⟨V, e1, rv⟩ := re.2 _ _ hv
      exact ⟨V, e1, out.here rs _ rv⟩
    · exact out.elim
  · cases h
theorem glob_of {x : Str} (h : gloB sc x = true) (hs : X.env.scope = sc) : Gl X x := by
  have := of_decide_eq_true h
  show X.env.scope.names.lookup x = _
  rw [hs]
  exact this
theorem se_glo (g : G T cls ck N sc fk W X) (i : Nat) {e : Expr} (h : chkE T N sc fk (.glo i) e = true) : SE X cls ck W (.glo i) e := by
  simp only [chkE] at h
  split at h
  · rename_i x pos
    rw [Bool.and_eq_true, Bool.and_eq_true, decide_eq_true_eq] at h
    obtain ⟨⟨h1, h2⟩, h3⟩ := h
    obtain ⟨d1, d2⟩ := dbg_of h3
    cases hg : ck.glo i with
    | none =>
      have key : PE X (.Name x pos) (tE X cls ck W (.glo i)) := ⟨fun pins s σ H Q I ⟨en, st, φ, Hf, F, re, rs, out⟩ => by
        simp only [evE, hg] at out
        exact out.elim⟩
      exact .gen key (fun _ => rfl) fun _ _ _ z => by cases z
    | some d =>
      obtain ⟨u, v, hm, r, hd, _⟩ := g.glo i x d h1 hg
      refine .gen (PE.weak (pe_glob (glob_of h2 g.hs) hm r d1) fun σ H Q ⟨en, st, φ, Hf, F, re, rs, out⟩ => ?_) (fun _ => rfl) fun _ _ _ z => by cases z
      simp only [evE, hg] at out
      exact Out.here (a := Val.d d) out rs _ (Dq.mono (fun a o z => by cases z) d hd)
  · cases h
theorem se_tup {es : Es} {l : List Expr} {k : Nat} {pos : Pos} (h : PA X l (tEs X cls ck W es)) : SE X cls ck W (.tup es) (.Tuple l k pos) := by
  refine .gen (PE.weak (pe_tup h) fun σ H Q ⟨en, st, φ, Hf, F, re, rs, out⟩ => ?_) (fun _ => rfl) fun _ _ _ z => by cases z
  exact ⟨en, st, φ, Hf, F, re, rs, (Out.bind out).mono fun vs st' φ' Hf' H' _ rs' o ws rv => mkT_fin rs' rv o⟩
theorem se_lst {r : Bool} {es : Es} {l : List Expr} {pos : Pos} (h : PA X l (tEs X cls ck W es)) : SE X cls ck W (.lst r es) (.List l pos) := by
  refine .gen (PE.weak (pe_lst h) fun σ H Q ⟨en, st, φ, Hf, F, re, rs, out⟩ => ?_) (fun _ => rfl) fun _ _ _ z => by cases z
  exact ⟨en, st, φ, Hf, F, re, rs, (Out.bind out).mono fun vs st' φ' Hf' H' _ rs' o ws rv => mkL_fin rs' rv o⟩
theorem se_bin {r : Bool} {o : Bop} {a b : E} {a' b' : Expr} {pos : Pos} (ha : SE X cls ck W a a') (hb : SE X cls ck W b b') : SE X cls ck W (.bin r o a b) (.BinOp a' (opOf o) b' pos) := by
  refine .gen (PE.weak (pe_op (op_bin r o) ha.pe hb.pe) fun σ H Q ⟨en, st, φ, Hf, F, re, rs, out⟩ => ?_) (fun _ => rfl) fun _ _ _ z => by cases z
  refine ⟨en, st, φ, Hf, F, re, rs, (Out.bind out).mono fun x st1 φ1 Hf1 H1 u1 rs1 o1 V1 rv1 => ?_⟩
  refine ⟨en, st1, φ1, Hf1, F, re.up u1, rs1, (Out.bind o1).mono fun y st2 φ2 Hf2 H2 u2 rs2 o2 V2 rv2 => ?_⟩
  exact ⟨x, y, st2, φ2, Hf2, F, _, rs2, rv1.up u2, rv2, o2⟩
theorem se_neg {a : E} {a' : Expr} {pos : Pos} (ha : SE X cls ck W a a') : SE X cls ck W (.neg a) (.UnaryOp .USub a' pos) := by
  refine .gen (PE.weak (pe_un un_neg ha.pe) fun σ H Q ⟨en, st, φ, Hf, F, re, rs, out⟩ => ?_) (fun _ => rfl) fun _ _ _ z => by cases z
  refine ⟨en, st, φ, Hf, F, re, rs, (Out.bind out).mono fun x st1 φ1 Hf1 H1 u1 rs1 o1 V1 rv1 => ?_⟩
  obtain ⟨z, e0, o1⟩ := o1.ofO
  obtain ⟨i, hi, rfl⟩ := Option.map_eq_some_iff.mp e0
  unfold intV at hi
  split at hi
  · cases hi
    cases rv1
    exact ⟨_, rfl, o1.here rs1 _ (.int _)⟩
  · cases hi
theorem truT {x : Val} {st : Sto} {φ : Nat → Addr} {Hf F : Hp} {H : Hp} {V : V} {b : Bool} (rs : RS X.K φ Hf F st H) (rv : RV X.K φ st.length Hf x V) (h : truthV x st = some b) : TruV X.K V H b := by
  unfold truthV at h
  split at h
  · rename_i d
    cases d with
    | none => cases rv; cases h; rfl
    | bool k => cases rv; cases h; rfl
    | int i => cases rv; cases h; rfl
    | str y =>
      cases rv
      simp only [truthD] at h
      split at h
      · rename_i hy
        cases h
        exact ⟨hy, rfl⟩
      · cases h
    | list ds =>
      cases h
      cases rv with
      | lst h1 h2 => exact .inl ⟨_, .of (rs.sub _ _ h1), by rw [isEmpty_len h2.length]⟩
    | tuple ds =>
      cases h
      cases rv with
      | tup h1 h2 => exact .inr (.inl ⟨_, SqT.mono h1 rs.sub, by rw [isEmpty_len h2.length]⟩)
    | dict _ => cases h
  · obtain ⟨hi, rfl⟩ := rv
    split at h
    · rename_i xs ec
      cases h
      obtain ⟨o, e1, ⟨vs, rfl, r⟩, _⟩ := rs.cell _ _ ec rfl
      exact .inl ⟨vs, .of e1, by rw [isEmpty_len r.length.symm]⟩
    · rename_i kvs ec
      cases h
      obtain ⟨o, e1, ⟨vs, rfl, r⟩, _⟩ := rs.cell _ _ ec rfl
      exact .inr (.inr ⟨vs, e1, by rw [isEmpty_len r.length.symm]⟩)
    · cases h
theorem se_not {a : E} {a' : Expr} {pos : Pos} (ha : SE X cls ck W a a') (hi : ifB a' = false) : SE X cls ck W (.not a) (.UnaryOp .Not a' pos) := by
  have key : PE X (.UnaryOp .Not a' pos) (tE X cls ck W (.not a)) := by
    refine PE.weak (pe_notT ha.pe) fun σ H Q ⟨en, st, φ, Hf, F, re, rs, out⟩ => ?_
    refine ⟨en, st, φ, Hf, F, re, rs, (Out.bind out).mono fun x st1 φ1 Hf1 H1 u1 rs1 o1 V1 rv1 => ?_⟩
    obtain ⟨z, e0, o1⟩ := o1.ofO
    obtain ⟨b, hb, rfl⟩ := Option.map_eq_some_iff.mp e0
    exact ⟨b, truT rs1 rv1 hb, o1.here rs1 _ (.bl _)⟩
  refine ⟨key, fun _ => PT.weak (pt_not (ha.pt hi)) fun σ H Q ⟨en, st, φ, Hf, F, re, rs, out⟩ => ?_, fun _ _ _ z => by cases z⟩
  refine ⟨en, st, φ, Hf, F, re, rs, (Out.bind out).mono fun x st1 φ1 Hf1 H1 u1 rs1 o1 => ?_⟩
  obtain ⟨z, e0, o1⟩ := o1.ofO
  obtain ⟨b, hb, rfl⟩ := Option.map_eq_some_iff.mp e0
  obtain ⟨b', hb', q⟩ := o1.here rs1
  cases hb'
  exact ⟨b, hb, q⟩
theorem mark_of {op : CmpOp} {b : Expr} (h : (!behindInMarks op b) = true) : behindInMarks op b = false := by
  rw [Bool.not_eq_true'] at h
  exact h
theorem se_cmp (hu : X.A.units + 65 < cLine) {o : Cop} {a b : E} {a' b' : Expr} {pos : Pos} (ha : SE X cls ck W a a') (hb : SE X cls ck W b b') (hm : behindInMarks (copOf o) b' = false) : SE X cls ck W (.cmp o a b) (.Compare a' [copOf o] [b'] pos) := by
  have m : ∀ σ H Q, tE X cls ck W (.cmp o a b) σ H Q → tOp (rBl X.K (cmpV o)) (tE X cls ck W a) (tE X cls ck W b) σ H Q := fun σ H Q ⟨en, st, φ, Hf, F, re, rs, out⟩ => by
    refine ⟨en, st, φ, Hf, F, re, rs, (Out.bind out).mono fun x st1 φ1 Hf1 H1 u1 rs1 o1 V1 rv1 => ?_⟩
    refine ⟨en, st1, φ1, Hf1, F, re.up u1, rs1, (Out.bind o1).mono fun y st2 φ2 Hf2 H2 u2 rs2 o2 V2 rv2 => ?_⟩
    exact ⟨x, y, st2, φ2, Hf2, F, _, rs2, rv1.up u2, rv2, o2⟩
  refine ⟨PE.weak (pe_cmpR (op_cmpV hu o) ha.pe hb.pe hm) m, fun _ => pt_cmpT (pt_cmpR (op_cmpV hu o) ha.pe hb.pe hm) m fun en st v st' h => ?_, fun _ _ _ z => by cases z⟩
  simp only [evE] at h
  obtain ⟨x, st1, h1, h⟩ := R.bind_ok h
  obtain ⟨y, st2, h2, h⟩ := R.bind_ok h
  obtain ⟨h, _⟩ := R.ofO_ok h
  obtain ⟨k, _, rfl⟩ := Option.map_eq_some_iff.mp h
  exact ⟨k, rfl⟩
theorem se_cmp2 (hu : X.A.units + 65 < cLine) {o p : Cop} {a b c : E} {a' b' c' : Expr} {pos : Pos} (ha : SE X cls ck W a a') (hb : SE X cls ck W b b') (hc : SE X cls ck W c c') (hm : behindInMarks (copOf p) c' = false) :
    SE X cls ck W (.cmp2 o p a b c) (.Compare a' [copOf o, copOf p] [b', c'] pos) := by
  have hm' : lastMarks [copOf o, copOf p] [b', c'] = false := hm
  have m : ∀ σ H Q, tE X cls ck W (.cmp2 o p a b c) σ H Q → tChain (rBl X.K (cmpV o)) (rBl X.K (cmpV p)) (tE X cls ck W a) (tE X cls ck W b) (tE X cls ck W c) σ H Q := fun σ H Q ⟨en, st, φ, Hf, F, re, rs, out⟩ => by
    refine ⟨en, st, φ, Hf, F, re, rs, (Out.bind out).mono fun x st1 φ1 Hf1 H1 u1 rs1 o1 V1 rv1 => ?_⟩
    refine ⟨en, st1, φ1, Hf1, F, re.up u1, rs1, (Out.bind o1).mono fun y st2 φ2 Hf2 H2 u2 rs2 o2 V2 rv2 => ?_⟩
    refine ⟨x, y, st2, φ2, Hf2, F, kEx cls W σ, rs2, rv1.up u2, rv2, ?_⟩
    split at o2
    · rename_i hk
      simp only [hk]
      intro φ3 Hf3 H3 u3 rs3 V rv
      cases rv
      refine ⟨true, rfl, ?_⟩
      rw [if_pos rfl]
      refine ⟨en, st2, φ3, Hf3, F, re.up (u1.trans (u2.trans u3)), rs3, (Out.bind (o2.from u3)).mono fun z st4 φ4 Hf4 H4 u4 rs4 o4 V4 rv4 => ?_⟩
      exact ⟨y, z, st4, φ4, Hf4, F, _, rs4, rv2.up (u3.trans u4), rv4, o4⟩
    · rename_i hk
      simp only [hk]
      intro φ3 Hf3 H3 u3 rs3 V rv
      cases rv
      refine ⟨false, rfl, ?_⟩
      rw [if_neg (by decide)]
      exact (o2.from u3).here rs3 _ (.bl _)
    · exact o2.elim
  refine ⟨PE.weak (pe_chain (op_cmpV hu o) (op_cmpV hu p) ha.pe hb.pe hc.pe hm') m, fun _ => pt_cmpT (pt_chain (op_cmpV hu o) (op_cmpV hu p) ha.pe hb.pe hc.pe hm') m fun en st v st' h => ?_, fun _ _ _ z => by cases z⟩
  simp only [evE] at h
  obtain ⟨x, st1, h1, h⟩ := R.bind_ok h
  obtain ⟨y, st2, h2, h⟩ := R.bind_ok h
  split at h
  · obtain ⟨z, st3, h3, h⟩ := R.bind_ok h
    obtain ⟨h, _⟩ := R.ofO_ok h
    obtain ⟨k, _, rfl⟩ := Option.map_eq_some_iff.mp h
    exact ⟨k, rfl⟩
  · cases h
    exact ⟨false, rfl⟩
  · cases h
end
end Ev
set_option Elab.async false
set_option linter.all false
set_option maxRecDepth 100000
/-! Ev11: expressions but comprehensions, further. -/
namespace Ev
open PySem PySem.Spec PyProof.Rows L2

theorem ifT {A B : Prop} (h : A) : if (true = true) then A else B := by rw [if_pos rfl]; exact h
theorem ifF {A B : Prop} (h : B) : if (false = true) then A else B := by rw [if_neg (by decide)]; exact h
theorem boot_bi (b : Bi) : bootBuiltins (biName b) = some (biFn b) := by cases b <;> decide +kernel
theorem bi_free (b : Bi) : biName b ∈ freeNames := by cases b <;> decide +kernel
theorem bi_ne (b : Bi) : biName b ≠ "__name__" := by cases b <;> decide +kernel
theorem bi_dbg (b : Bi) : (biName b == ("__debug__" : Str)) = false := by cases b <;> decide +kernel
theorem bi_kind (b : Bi) : (∃ id, biFn b = .builtin id) ∨ ∃ T, biFn b = .type T := by cases b <;> first | exact .inl ⟨_, rfl⟩ | exact .inr ⟨_, rfl⟩
section
variable {X : Cx} {cls : Nat → Addr} {ck : Ck} {W : WX} {T : Tx} {N : List Str} {sc : Scope} {fk : Str → Bool}
theorem pe_callF {f : Value} {x : Str} {r : List V → Hp → VK → Prop} {e : Expr} {es : List Expr} {t : TA} {p pos : Pos} (hf : (∃ id, f = .builtin id) ∨ ∃ T, f = .type T) (hc : CallR X f r) (hg : Gl X x) (hm : X.mg x = none) (hv : bootBuiltins x = some f) (ha : PA X (e :: es) t) (hn : x ≠ "__name__")
    (hdb : (x == ("__debug__" : Str)) = false) (he : starEach (e :: es) X.env = (false, eval e X.env) :: starEach es X.env) (hpl : (backTo pos (starEach es X.env)).any (·.1) = false) : PE X (.Call (.Name x p) (e :: es) [] pos) (tCB r t) := by
  rcases hf with ⟨id, rfl⟩ | ⟨T, rfl⟩
  · exact pe_callB hc hg hm hv ha hn hdb he hpl
  · exact pe_callTy hc hg hm hv ha hn hdb he hpl
theorem nostar_split {e : Expr} {es : List Expr} (h : noStars (e :: es) = true) : starB e = false ∧ noStars es = true := by
  unfold noStars at h
  rw [Bool.and_eq_true, Bool.not_eq_true'] at h
  exact h
theorem se_bi (g : G T cls ck N sc fk W X) {r : Bool} {b : Bi} {es : Es} {x : Str} {l : List Expr} {p pos : Pos} (hx : x = biName b) (hg : gloB sc x = true) (hs : noStars l = true) (hl : (!l.isEmpty) = true) (h : PA X l (tEs X cls ck W es)) : SE X cls ck W (.bi r b es) (.Call (.Name x p) l [] pos) := by
  cases l with
  | nil => cases hl
  | cons e l =>
    subst hx
    obtain ⟨h1, h2⟩ := nostar_split hs
    refine .gen (PE.weak (pe_callF (bi_kind b) (call_bi g.calm g.un g.gd r b) (glob_of hg g.hs) (g.free _ (bi_free b)) (boot_bi b) h (bi_ne b) (bi_dbg b) (star_of h1 _ _) (noStars_any h2)) fun σ H Q ⟨en, st, φ, Hf, F, re, rs, out⟩ => ?_) (fun _ => rfl) fun _ _ _ z => by cases z
    exact ⟨en, st, φ, Hf, F, re, rs, (Out.bind out).mono fun vs st' φ' Hf' H' _ rs' o ws rv => ⟨vs, st', φ', Hf', F, _, rs', rv, o⟩⟩
theorem se_call (g : G T cls ck N sc fk W X) {f : Nat} {es : Es} {x : Str} {l : List Expr} {p pos : Pos} (hx : T.nm f = some x) (hg : gloB sc x = true) (hd : notDbg x = true) (hs : noStars l = true) (h : PA X l (tEs X cls ck W es)) (h0 : l = [] → es = .nil) : SE X cls ck W (.call f es) (.Call (.Name x p) l [] pos) := by
  obtain ⟨k, fa, fd, ps, hr, hm, hk, hb, F⟩ := g.fns f x hx
  have hd' := (dbg_of hd).1
  cases l with
  | nil =>
    have e0 := h0 rfl
    subst e0
    refine .gen (PE.weak (pe_call0G F hr g.gd (glob_of hg g.hs) hm hk hb g.pas hd') fun σ H Q ⟨en, st, φ, Hf, F, re, rs, out⟩ => ?_) (fun _ => rfl) fun _ _ _ z => by cases z
    exact ⟨[], st, φ, Hf, F, rs, .nil, out⟩
  | cons e l =>
    obtain ⟨h1, h2⟩ := nostar_split hs
    refine .gen (PE.weak (pe_callG (E := WE W) F hr g.gd (glob_of hg g.hs) hm hk hb g.pas h hd' (star_of h1 _ _) (noStars_any h2)) fun σ H Q ⟨en, st, φ, Hf, F, re, rs, out⟩ => ?_) (fun _ => rfl) fun _ _ _ z => by cases z
    exact ⟨en, st, φ, Hf, F, re, rs, (Out.bind out).mono fun vs st' φ' Hf' H' _ rs' o ws rv => ⟨vs, st', φ', Hf', F, rs', rv, o⟩⟩
theorem mt_slot (m : Mt) : PlainAttrs (mtT m) ∧ Slot (mtT m) (mtName m) (mtId m) ∧ typeOf (.builtin (mtId m)) = pure (.type "method_descriptor") := by
  cases m with
  | append => exact ⟨PySem.F.plainAttrs_list, PySem.F.slot_list_append, PySem.F.type_list_append⟩
  | pop0 => exact ⟨PySem.F.plainAttrs_list, PySem.F.slot_list_pop, PySem.F.type_list_pop⟩
  | pop1 => exact ⟨PySem.F.plainAttrs_list, PySem.F.slot_list_pop, PySem.F.type_list_pop⟩
  | extend => exact ⟨PySem.F.plainAttrs_list, PySem.F.slot_list_extend, PySem.F.type_list_extend⟩
  | index => exact ⟨PySem.F.plainAttrs_list, PySem.F.slot_list_index, PySem.F.type_list_index⟩
  | insert => exact ⟨PySem.F.plainAttrs_list, PySem.F.slot_list_insert, PySem.F.type_list_insert⟩
  | join => exact ⟨PySem.F.plainAttrs_str, PySem.F.slot_str_join, PySem.F.type_str_join⟩
theorem few_of {l : List Expr} {cp : Pos} {env : Env} (h : decide (l.length < 20) = true) (hs : noStars l = true) : ((backTo cp (starEach l env)).all (fun x => !x.1) && (backToKw cp (keywordEach [] env)).all (fun x => x.1.isSome)
      && decide (l.length + ([] : List Keyword).length + (if ([] : List Keyword).isEmpty then 0 else 1) < 30)) = true := by
  have h1 : (backTo cp (starEach l env)).all (fun x => !x.1) = true := by
    have := noStars_any (pos := cp) (env := env) hs
    rw [List.all_eq_true]
    intro y hy
    have := List.any_eq_false.mp this y hy
    cases hz : y.1 with
    | false => rfl
    | true => rw [hz] at this; exact absurd rfl this
  rw [h1]
  have := of_decide_eq_true h
  have h2 : decide (l.length + ([] : List Keyword).length + (if ([] : List Keyword).isEmpty then 0 else 1) < 30) = true := by
    apply decide_eq_true
    show l.length + 0 + 0 < 30
    omega
  rw [h2]
  rfl
theorem se_mt (g : G T cls ck N sc fk W X) {r : Bool} {m : Mt} {o : E} {es : Es} {o' : Expr} {x : Str} {l : List Expr} {ap cp : Pos} (hx : x = mtName m) (ho : SE X cls ck W o o') (h0 : call0B o' = false) (hline : (ap.endLine == cp.line) = true) (hn : decide (l.length < 20) = true) (hs : noStars l = true)
    (h : PA X l (tEs X cls ck W es)) (hz : l = [] → es = .nil) : SE X cls ck W (.mt r m o es) (.Call (.Attribute o' x ap) l [] cp) := by
  subst hx
  obtain ⟨s1, s2, s3⟩ := mt_slot m
  have step : ∀ σ H Q, tE X cls ck W (.mt r m o es) σ H Q → tE X cls ck W o σ H fun V1 H1 => tyV X.K (mtT m) V1 H1 ∧ tEs X cls ck W es σ H1 fun ws H2 => kM X.K (mtV m) V1 ws H2 Q := fun σ H Q ⟨en, st, φ, Hf, F, re, rs, out⟩ => by
    refine ⟨en, st, φ, Hf, F, re, rs, (Out.bind out).mono fun x st1 φ1 Hf1 H1 u1 rs1 o1 V1 rv1 => ?_⟩
    split at o1
    · rename_i hk
      refine ⟨kind_ty rs1 rv1 hk, en, st1, φ1, Hf1, F, re.up u1, rs1, (Out.bind o1).mono fun vs st2 φ2 Hf2 H2 u2 rs2 o2 ws rvs => ?_⟩
      exact ⟨x, vs, st2, φ2, Hf2, F, _, rs2, rv1.up u2, rvs, o2⟩
    · exact o1.elim
  cases l with
  | nil =>
    have e0 := hz rfl
    subst e0
    refine .gen (PE.weak (pe_bm0 s1 s2 s3 (mt_val g.un m) ho.pe (base_of h0) hline) fun σ H Q h => ?_) (fun _ => rfl) fun _ _ _ z => by cases z
    obtain ⟨en, st, φ, Hf, F, re, rs, out⟩ := step σ H Q h
    refine ⟨en, st, φ, Hf, F, re, rs, out.mono fun v st' φ' Hf' H' _ rs' k V rv => ?_⟩
    obtain ⟨k1, en2, st2, φ2, Hf2, F2, re2, rs2, o2⟩ := k V rv
    exact ⟨k1, o2.here rs2 _ .nil⟩
  | cons e l =>
    obtain ⟨h1, h2⟩ := nostar_split hs
    exact .gen (PE.weak (pe_bm s1 s2 s3 (mt_val g.un m) ho.pe h (base_of h0) (few_of hn hs) hline (star_of h1 _ _) (noStars_any h2)) step) (fun _ => rfl) fun _ _ _ z => by cases z
theorem se_idx (g : G T cls ck N sc fk W X) {a b : E} {a' b' : Expr} {pos : Pos} (ha : SE X cls ck W a a') (hb : SE X cls ck W b b') (hs : sliceB b' = false) : SE X cls ck W (.idx a b) (.Subscript a' b' pos) := by
  have hu : X.A.units + 1 < cLine := by have := g.un; omega
  refine .gen (PE.weak (pe_ix (ix_val hu) ha.pe hb.pe (plain_of hs)) fun σ H Q ⟨en, st, φ, Hf, F, re, rs, out⟩ => ?_) (fun _ => rfl) fun _ _ _ z => by cases z
  refine ⟨en, st, φ, Hf, F, re, rs, (Out.bind out).mono fun x st1 φ1 Hf1 H1 u1 rs1 o1 V1 rv1 => ?_⟩
  refine ⟨en, st1, φ1, Hf1, F, re.up u1, rs1, (Out.bind o1).mono fun y st2 φ2 Hf2 H2 u2 rs2 o2 V2 rv2 => ?_⟩
  exact ⟨x, y, st2, φ2, Hf2, F, _, rs2, rv1.up u2, rv2, o2⟩
theorem po_none' : PO X none (tEo X cls ck W .none) := ⟨fun pins s σ H Q I ⟨en, st, φ, Hf, F, re, rs, out⟩ => po_none.run pins s σ H Q I (out.here rs)⟩
theorem po_some' {a : E} {e : Expr} (h : SE X cls ck W a e) : PO X (some e) (tEo X cls ck W (.some a)) := ⟨fun pins s σ H Q I ⟨en, st, φ, Hf, F, re, rs, out⟩ => (po_some h.pe).run pins s σ H Q I
  ⟨en, st, φ, Hf, F, re, rs, (Out.bind out).mono fun x st1 φ1 Hf1 H1 u1 rs1 o1 V1 rv1 => by
    obtain ⟨z, e0, o1⟩ := o1.ofO
    obtain ⟨i, hi, rfl⟩ := Option.map_eq_some_iff.mp e0
    unfold intV at hi
    split at hi
    · cases hi
      cases rv1
      exact ⟨_, rfl, o1.here rs1⟩
    · cases hi⟩⟩
theorem se_slc {r : Bool} {a : E} {lo hi : Eo} {a' : Expr} {lo' hi' : Option Expr} {p2 pos : Pos} (ha : SE X cls ck W a a') (hl : PO X lo' (tEo X cls ck W lo)) (hh : PO X hi' (tEo X cls ck W hi)) : SE X cls ck W (.slc r a lo hi) (.Subscript a' (.Slice lo' hi' none p2) pos) := by
  refine .gen (PE.weak (pe_slice (sl_val r) ha.pe hl hh) fun σ H Q ⟨en, st, φ, Hf, F, re, rs, out⟩ => ?_) (fun _ => rfl) fun _ _ _ z => by cases z
  refine ⟨en, st, φ, Hf, F, re, rs, (Out.bind out).mono fun x st1 φ1 Hf1 H1 u1 rs1 o1 V1 rv1 => ?_⟩
  refine ⟨en, st1, φ1, Hf1, F, re.up u1, rs1, (Out.bind o1).mono fun l st2 φ2 Hf2 H2 u2 rs2 o2 => ?_⟩
  refine ⟨en, st2, φ2, Hf2, F, re.up (u1.trans u2), rs2, (Out.bind o2).mono fun h st3 φ3 Hf3 H3 u3 rs3 o3 => ?_⟩
  exact ⟨x, st3, φ3, Hf3, F, _, rs3, rv1.up (u2.trans u3), o3⟩
theorem se_rev {r : Bool} {a : E} {a' : Expr} {p2 p3 p4 pos : Pos} {j : Nat} (ha : SE X cls ck W a a') : SE X cls ck W (.rev r a) (.Subscript a' (.Slice none none (some (.UnaryOp .USub (.Constant (.int 1) j p3) p4)) p2) pos) := by
  refine .gen (PE.weak (pe_rev r ha.pe) fun σ H Q ⟨en, st, φ, Hf, F, re, rs, out⟩ => ?_) (fun _ => rfl) fun _ _ _ z => by cases z
  exact ⟨en, st, φ, Hf, F, re, rs, (Out.bind out).mono fun x st1 φ1 Hf1 H1 u1 rs1 o1 V1 rv1 => ⟨x, st1, φ1, Hf1, F, _, rs1, rv1, o1⟩⟩
theorem se_and {a b : E} {x y : Expr} {r : List Expr} {p : Pos} (ha : SE X cls ck W a x) (hi : ifB x = false) (hb : PE X (.BoolOp .And (y :: r) p) (tE X cls ck W b)) (hw : PW X (.BoolOp .And (y :: r) p) (tT X cls ck W b)) : SE X cls ck W (.and a b) (.BoolOp .And (x :: y :: r) p) := by
  have hpw : PW X (.BoolOp .And (x :: y :: r) p) (tT X cls ck W (.and a b)) := by
    refine PW.weak (pw_and (ha.pt hi) hw) fun σ H Q ⟨en, st, φ, Hf, F, re, rs, out⟩ => ?_
    refine ⟨en, st, φ, Hf, F, re, rs, (Out.bind out).mono fun v st1 φ1 Hf1 H1 u1 rs1 o1 => ?_⟩
    split at o1
    · rename_i hk
      exact ⟨true, hk, ifT (⟨en, st1, φ1, Hf1, F, re.up u1, rs1, o1⟩)⟩
    · rename_i hk
      obtain ⟨c, hc, q⟩ := o1.here rs1
      rw [hk] at hc
      cases hc
      exact ⟨false, hk, ifF (q)⟩
    · exact o1.elim
  refine ⟨PE.weak (pe_andT ha.pe hb) fun σ H Q ⟨en, st, φ, Hf, F, re, rs, out⟩ => ?_, fun _ => hpw.pt, fun op l pos z => by cases z; exact hpw⟩
  refine ⟨en, st, φ, Hf, F, re, rs, (Out.bind out).mono fun v st1 φ1 Hf1 H1 u1 rs1 o1 V1 rv1 => ?_⟩
  split at o1
  · rename_i hk
    exact ⟨true, truT rs1 rv1 hk, ifT (⟨en, st1, φ1, Hf1, F, re.up u1, rs1, o1⟩)⟩
  · rename_i hk
    exact ⟨false, truT rs1 rv1 hk, ifF (o1.here rs1 _ rv1)⟩
  · exact o1.elim
theorem se_or {a b : E} {x y : Expr} {r : List Expr} {p : Pos} (ha : SE X cls ck W a x) (hi : ifB x = false) (hb : PE X (.BoolOp .Or (y :: r) p) (tE X cls ck W b)) (hw : PW X (.BoolOp .Or (y :: r) p) (tT X cls ck W b)) : SE X cls ck W (.or a b) (.BoolOp .Or (x :: y :: r) p) := by
  have hpw : PW X (.BoolOp .Or (x :: y :: r) p) (tT X cls ck W (.or a b)) := by
    refine PW.weak (pw_or (ha.pt hi) hw) fun σ H Q ⟨en, st, φ, Hf, F, re, rs, out⟩ => ?_
    refine ⟨en, st, φ, Hf, F, re, rs, (Out.bind out).mono fun v st1 φ1 Hf1 H1 u1 rs1 o1 => ?_⟩
    split at o1
    · rename_i hk
      obtain ⟨c, hc, q⟩ := o1.here rs1
      rw [hk] at hc
      cases hc
      exact ⟨true, hk, ifT (q)⟩
    · rename_i hk
      exact ⟨false, hk, ifF (⟨en, st1, φ1, Hf1, F, re.up u1, rs1, o1⟩)⟩
    · exact o1.elim
  refine ⟨PE.weak (pe_orT ha.pe hb) fun σ H Q ⟨en, st, φ, Hf, F, re, rs, out⟩ => ?_, fun _ => hpw.pt, fun op l pos z => by cases z; exact hpw⟩
  refine ⟨en, st, φ, Hf, F, re, rs, (Out.bind out).mono fun v st1 φ1 Hf1 H1 u1 rs1 o1 V1 rv1 => ?_⟩
  split at o1
  · rename_i hk
    exact ⟨true, truT rs1 rv1 hk, ifT (o1.here rs1 _ rv1)⟩
  · rename_i hk
    exact ⟨false, truT rs1 rv1 hk, ifF (⟨en, st1, φ1, Hf1, F, re.up u1, rs1, o1⟩)⟩
  · exact o1.elim
theorem se_ite {c a b : E} {c' a' b' : Expr} {pos : Pos} (hc : SE X cls ck W c c') (hi : ifB c' = false) (ha : SE X cls ck W a a') (hb : SE X cls ck W b b') : SE X cls ck W (.ite c a b) (.IfExp c' a' b' pos) := by
  refine ⟨PE.weak (pe_ifExp (hc.pt hi) ha.pe hb.pe) fun σ H Q ⟨en, st, φ, Hf, F, re, rs, out⟩ => ?_, fun z => by simp [ifB] at z, fun _ _ _ z => by cases z⟩
  refine ⟨en, st, φ, Hf, F, re, rs, (Out.bind out).mono fun v st1 φ1 Hf1 H1 u1 rs1 o1 => ?_⟩
  split at o1
  · rename_i hk
    exact ⟨true, hk, ifT (⟨en, st1, φ1, Hf1, F, re.up u1, rs1, o1⟩)⟩
  · rename_i hk
    exact ⟨false, hk, ifF (⟨en, st1, φ1, Hf1, F, re.up u1, rs1, o1⟩)⟩
  · exact o1.elim
theorem isN_rep {K : PySem.W.Frag} {φ : Nat → Addr} {n : Nat} {Hf : Hp} {x : Val} {V : L2.V} (rv : RV K φ n Hf x V) : decide (V = .non) = noneB x := by
  cases x with
  | d d =>
    cases d with
    | none => cases rv; rfl
    | bool _ => cases rv; rfl
    | int _ => cases rv; rfl
    | str _ => cases rv; rfl
    | list _ => cases rv; rfl
    | tuple _ => cases rv; rfl
    | dict _ => cases rv
  | ref i => obtain ⟨_, rfl⟩ := rv; rfl
theorem se_isN {a : E} {a' : Expr} {k : Nat} {p pos : Pos} (ha : SE X cls ck W a a') : SE X cls ck W (.isN a) (.Compare a' [.Is] [.Constant .none k p] pos) := by
  have m : ∀ σ H Q, tE X cls ck W (.isN a) σ H Q → tIsN (tE X cls ck W a) σ H Q := fun σ H Q ⟨en, st, φ, Hf, F, re, rs, out⟩ =>
    ⟨en, st, φ, Hf, F, re, rs, (Out.bind out).mono fun v st1 φ1 Hf1 H1 u1 rs1 o1 V1 rv1 => by
      show Q (.bl (decide (V1 = .non))) H1
      rw [isN_rep rv1]
      exact o1.here rs1 _ (.bl _)⟩
  refine ⟨PE.weak (pe_cmp (pc_isN ha.pe) rfl) m, fun _ => pt_cmpT (te := tIsN (tE X cls ck W a)) (pt_cmp (pc_isN ha.pe) rfl) m fun en st v st' h => ?_, fun _ _ _ z => by cases z⟩
  simp only [evE] at h
  obtain ⟨x, st1, h1, h⟩ := R.bind_ok h
  cases h
  exact ⟨_, rfl⟩
theorem se_isNN {a : E} {a' : Expr} {k : Nat} {p pos : Pos} (ha : SE X cls ck W a a') : SE X cls ck W (.isNN a) (.Compare a' [.IsNot] [.Constant .none k p] pos) := by
  have m : ∀ σ H Q, tE X cls ck W (.isNN a) σ H Q → tNotN (tE X cls ck W a) σ H Q := fun σ H Q ⟨en, st, φ, Hf, F, re, rs, out⟩ =>
    ⟨en, st, φ, Hf, F, re, rs, (Out.bind out).mono fun v st1 φ1 Hf1 H1 u1 rs1 o1 V1 rv1 => by
      show Q (.bl (!decide (V1 = .non))) H1
      rw [isN_rep rv1]
      exact o1.here rs1 _ (.bl _)⟩
  refine ⟨PE.weak (pe_cmp (pc_notN ha.pe) rfl) m, fun _ => pt_cmpT (te := tNotN (tE X cls ck W a)) (pt_cmp (pc_notN ha.pe) rfl) m fun en st v st' h => ?_, fun _ _ _ z => by cases z⟩
  simp only [evE] at h
  obtain ⟨x, st1, h1, h⟩ := R.bind_ok h
  cases h
  exact ⟨_, rfl⟩
end
end Ev
set_option Elab.async false
set_option linter.all false
set_option maxRecDepth 100000
/-! Ev11b: isinstance with one built-in class; a constant tuple's index. -/
namespace Ev
open PySem PySem.Spec PyProof.Rows L2
section
variable {K : PySem.W.Frag} {H : Hp}
def dTy : D → String
  | .none => "NoneType"
  | .bool _ => "bool"
  | .int _ => "int"
  | .str _ => "str"
  | .list _ => "list"
  | .tuple _ => "tuple"
  | .dict _ => "dict"
theorem dq_ty {d : D} {v : V} (h : Dq K H v d) : TyX K H v (.type (dTy d)) := by
  cases h with
  | non => exact .base .non
  | bl b => exact .base (.bl b)
  | int i => exact .base (.int i)
  | str x => exact .base (.str x)
  | lst h _ => exact .base (.lst h)
  | tup h _ =>
    rcases h with (h | ⟨o, h⟩) | ⟨o, _, _, h, hc, _⟩
    · exact .base (.tup h)
    · exact .fTuple h
    · exact .kTuple h hc
theorem kit_ty : ∀ (d : D) (t : Ty), (∀ l, d ≠ .dict l) → PySem.W.kitOne K (.type (dTy d)) (.type (tyName t)) = some (isTy d t)
  | .none, t, _ => by cases t <;> kernel_rfl
  | .bool _, t, _ => by cases t <;> kernel_rfl
  | .int _, t, _ => by cases t <;> kernel_rfl
  | .str _, t, _ => by cases t <;> kernel_rfl
  | .list _, t, _ => by cases t <;> kernel_rfl
  | .tuple _, t, _ => by cases t <;> kernel_rfl
  | .dict l, _, h => absurd rfl (h l)
theorem dq_nodict {d : D} {v : V} (h : Dq K H v d) : ∀ l, d ≠ .dict l := fun l e => by
  subst e
  cases h
theorem ty_boot (t : Ty) : bootBuiltins (tyStr t) = some (.type (tyName t)) := by cases t <;> decide +kernel
theorem isi_boot : bootBuiltins "isinstance" = some (.builtin "isinstance") := by decide +kernel
theorem ty_free (t : Ty) : tyStr t ∈ freeNames := by cases t <;> decide +kernel
theorem ty_ne (t : Ty) : tyStr t ≠ ("__name__" : Str) := by cases t <;> decide +kernel
theorem ty_dbg (t : Ty) : (tyStr t == ("__debug__" : Str)) = false := by cases t <;> decide +kernel
end
section
variable {X : Cx} {cls : Nat → Addr} {ck : Ck} {W : WX} {T : Tx} {N : List Str} {sc : Scope} {fk : Str → Bool}
theorem se_isi (g : G T cls ck N sc fk W X) {t : Ty} {a : E} {a' : Expr} {x y : Str} {px py pos : Pos} (hx : x = ("isinstance" : Str)) (hy : y = tyStr t) (gx : gloB sc x = true) (gy : gloB sc y = true) (hs : starB a' = false) (ha : SE X cls ck W a a') :
    SE X cls ck W (.isi a [t]) (.Call (.Name x px) [a', .Name y py] [] pos) := by
  subst hx hy
  have ht : PE X (.Name (tyStr t) py) (tC (.ty (tyName t))) := pe_bltn (glob_of gy g.hs) (g.free _ (ty_free t)) (ty_boot t) (show RelV (.ty (tyName t)) (.type (tyName t)) from rfl) (ty_ne t) (ty_dbg t)
  refine .gen (PE.weak (pe_callF (.inl ⟨_, rfl⟩) call_isi (glob_of gx g.hs) (g.free _ (by decide +kernel)) isi_boot (pa_cons ha.pe (pa_cons ht pa_nil rfl) (star_of hs _ _)) (by decide) (by decide) (star_of hs _ _) rfl) fun σ H Q ⟨en, st, φ, Hf, F, re, rs, out⟩ => ?_) (fun _ => rfl) fun _ _ _ z => by cases z
  refine ⟨en, st, φ, Hf, F, re, rs, (Out.bind out).mono fun v1 st1 φ1 Hf1 H1 u1 rs1 o1 V1 rv1 => ?_⟩
  obtain ⟨z, e0, o1⟩ := o1.ofO
  obtain ⟨b, hb, rfl⟩ := Option.map_eq_some_iff.mp e0
  cases v1 with
  | ref i => cases hb
  | d d =>
    have hq : Dq X.K H1 V1 d := Dq.mono rs1.sub d rv1
    have eb : [t].any (isTy d) = isTy d t := by simp
    exact ⟨V1, .ty (tyName t), .type (dTy d), .type (tyName t), [t].any (isTy d), rfl, .ty _, dq_ty hq, by rw [eb]; exact kit_ty d t (dq_nodict hq), o1.here rs1 _ (Dq.bl ([t].any (isTy d)))⟩
/-! ### a constant's index -/
def rIdxT (K : PySem.W.Frag) : V → List V → Hp → VK → Prop := fun x xs H Q => ∃ (p : Addr) (y : V) (d : D) (ds : List D) (j : Nat) (z : D), x = .ref p ∧ xs = [y] ∧ Dp K H (.ref p) (.tuple ds) ∧ Dp K H y d ∧
  SeqAt.shaped (.tuple ds) = true ∧ SeqAt.shaped d = true ∧ ds[j]? = some z ∧ PyData.eqv z d = true ∧ (∀ (m : Nat) (z' : D), m < j → ds[m]? = some z' → PyData.eqv z' d = false) ∧ Q (.int (j : Nat)) H
theorem mt_idxT (hu : X.A.units + 65 < cLine) : MtR X "tuple.index" (rIdxT X.K) := by
  rintro pins s σ H _ _ v us Q I rx rxs ⟨p, y, d, ds, j, z, rfl, rfl, hl, hy, sl, sd, hz, hzj, hno, q⟩
  cases rx
  obtain ⟨uy, rfl, ry⟩ := vals1 rxs
  obtain ⟨bs, r1⟩ := Dp.reads I d y uy hy ry
  have lay : PyData.canLayAll0 ds = true := SeqAt.canLay_of_shaped sl
  have room : X.A.units + 1 + min (PyData.depthAll ds) d.depth < cLine := room_in_shaped sd hu
  cases hl with
  | tup hs ha =>
    obtain ⟨its, rv, ⟨⟨oc, od, dt, osl⟩, ho, hc, n, hd⟩, _⟩ := I.tuple hs
    dsimp only at hc hd
    subst hc hd
    obtain ⟨as, r2⟩ := Dp.readsAll I ds _ its ha rv
    have len : its.length = ds.length := SeqAt.ReadsAll.length ds its as r2
    have same : its.map (SeqAt.readOf s.heap) = ds := SeqAt.readsAll_map ds its as lay r2
    have hj : j < its.toArray.size := by
      have := (List.getElem?_eq_some_iff.mp hz).1
      rw [List.size_toArray]
      omega
    have item : ∀ (m : Nat) (hm : m < its.toArray.size), ds[m]? = some (SeqAt.readOf s.heap its.toArray[m]) := fun m hm => by
      have hm2 : m < its.length := by rwa [List.size_toArray] at hm
      rw [← same, List.getElem?_map, List.getElem?_eq_getElem hm2]
      simp
    refine call_meets PySem.F.slot_tuple_index ⟨_, ho, rfl⟩ PySem.F.entry_tuple_index (PySem.F.args_tuple_index_2 _ _) (TI.tuple_indexAt p its.toArray n od osl uy (fun u => PyData.eqv (SeqAt.readOf s.heap u) d) j hj ?_ ?_)
      ⟨ho, SeqAt.items_eqAt (vs := its.toArray) (show ReadsAll s.heap its.toArray.toList ds as from r2) r1 lay (SeqAt.canLay_of_shaped sd) room, ⟨.int (j : Nat), H, I.tok _, ⟨_, rfl⟩, q⟩⟩
    · have e := item j hj
      rw [hz] at e
      rw [← Option.some.inj e]
      exact hzj
    · intro m hm hmj
      exact hno m _ hmj (item m hm)
theorem se_gidx (g : G T cls ck N sc fk W X) {i : Nat} {a : E} {a' : Expr} {x y : Str} {px ap cp : Pos} (h1 : T.gn i = some x) (h2 : gloB sc x = true) (h3 : notDbg x = true) (hy : y = ("index" : Str)) (hline : (ap.endLine == cp.line) = true) (hs : starB a' = false) (ha : SE X cls ck W a a') :
    SE X cls ck W (.gidx i a) (.Call (.Attribute (.Name x px) y ap) [a'] [] cp) := by
  subst hy
  obtain ⟨d1, d2⟩ := dbg_of h3
  have bad : (∀ ds, ck.glo i ≠ some (.tuple ds)) → SE X cls ck W (.gidx i a) (.Call (.Attribute (.Name x px) "index" ap) [a'] [] cp) := fun hn => by
    have key : PE X (.Call (.Attribute (.Name x px) "index" ap) [a'] [] cp) (tE X cls ck W (.gidx i a)) := ⟨fun pins s σ H Q I ⟨en, st, φ, Hf, F, re, rs, out⟩ => by
      have e : evE ck (.gidx i a) en st = .no := by
        simp only [evE] <;> (split <;> first | rfl | (rename_i ds hq; exact absurd hq (hn ds)))
      rw [e] at out
      exact out.elim⟩
    exact .gen key (fun _ => rfl) fun _ _ _ z => by cases z
  cases hg : ck.glo i with
  | none => exact bad fun ds z => by rw [hg] at z; cases z
  | some d =>
    by_cases hd : ∃ ds, d = .tuple ds
    · obtain ⟨ds, rfl⟩ := hd
      obtain ⟨u, v, hm, r, hq, hk⟩ := g.glo i x _ h1 hg
      cases hq with
      | tup q1 q2 =>
        rename_i p xs
        obtain ⟨o, k1, k2, k3⟩ := hk p rfl
        refine .gen (PE.weak (pe_bm PySem.F.plainAttrs_tuple PySem.F.slot_tuple_index PySem.F.type_tuple_index (mt_idxT g.un) (pe_glob (glob_of h2 g.hs) hm r d1) (pa_cons ha.pe pa_nil (star_of hs _ _)) (base_of rfl) (few_of rfl (show noStars [a'] = true by simp [noStars, hs])) hline (star_of hs _ _) rfl) fun σ H Q ⟨en, st, φ, Hf, F, re, rs, out⟩ => ?_) (fun _ => rfl) fun _ _ _ z => by cases z
        have e : evE ck (.gidx i a) en st = (evE ck a en st).bind fun y st1 => match dv 2 y st1 with
          | some d => if shapedB d && shapedB (.tuple ds) then .ofO ((findD d ds 0).map fun (j : Nat) => Val.d (.int (j : Int))) st1 else .no
          | none => .no := by simp only [evE, hg] <;> rfl
        rw [e] at out
        refine ⟨.inr (.inl ⟨rfl, o, k1, k2, k3⟩), en, st, φ, Hf, F, re, rs, (Out.bind out).mono fun v1 st1 φ1 Hf1 H1 u1 rs1 o1 V1 rv1 => ?_⟩
        split at o1
        · rename_i d e2
          split at o1
          · rename_i hsh
            rw [Bool.and_eq_true] at hsh
            obtain ⟨z, e0, o1⟩ := o1.ofO
            obtain ⟨j, hj, rfl⟩ := Option.map_eq_some_iff.mp e0
            obtain ⟨_, z, h3, h4, h5⟩ := findD_use hj
            rw [Nat.sub_zero] at h3 h5
            exact ⟨p, V1, d, ds, j, z, rfl, rfl, Dq.dp (.tuple ds) (Dq.mono (fun a o z => by cases z) (.tuple ds) (.tup q1 q2)), dv_rep rs1 2 e2 rv1, hsh.2, hsh.1, h3, h4, h5, o1.here rs1 _ (.int _)⟩
          · exact o1.elim
        · exact o1.elim
    · refine bad fun ds z => ?_
      rw [hg] at z
      cases z
      exact hd ⟨ds, rfl⟩
end
end Ev
set_option Elab.async false
set_option linter.all false
set_option maxRecDepth 100000
/-! Ev12: targets, what is walked, comprehensions. -/
namespace Ev
open PySem PySem.Spec PyProof.Rows L2

section
variable {X : Cx} {cls : Nat → Addr} {ck : Ck} {W : WX} {T : Tx} {N : List Str} {sc : Scope} {fk : Str → Bool}
/-! ### targets -/
def tG (X : Cx) (g : Tg) : TG := fun v σ H Q => ∃ en en' x st φ Hf F, RE X.K φ st.length Hf en σ ∧ RS X.K φ Hf F st H ∧ RV X.K φ st.length Hf x v ∧ asg g x en = some en' ∧
  ∀ σ', RE X.K φ st.length Hf en' σ' → σ'.length = σ.length → (∀ j, j ∉ tgSlots g → σ'[j]? = σ[j]?) → Q σ' H
def tGs (X : Cx) (g : Tg) : TGs := fun vs σ H Q => ∃ en en' ds st φ Hf F, RE X.K φ st.length Hf en σ ∧ RS X.K φ Hf F st H ∧ DqAll X.K Hf vs ds ∧ asg g (.d (.tuple ds)) en = some en' ∧
  ∀ σ', RE X.K φ st.length Hf en' σ' → σ'.length = σ.length → (∀ j, j ∉ tgSlots g → σ'[j]? = σ[j]?) → Q σ' H
theorem PG.weak {e : Expr} {t t' : TG} (h : PG X e t) (m : ∀ v σ H Q, t' v σ H Q → t v σ H Q) : PG X e t' := ⟨fun pins s σ H v u Q I r q => h.run pins s σ H v u Q I r (m v σ H Q q)⟩
theorem PGs.weak {e : List Expr} {t t' : TGs} (h : PGs X e t) (m : ∀ v σ H Q, t' v σ H Q → t v σ H Q) : PGs X e t' := ⟨fun pins s σ H v u Q I r q => h.run pins s σ H v u Q I r (m v σ H Q q)⟩
def isName : Tg → Bool
  | .name _ => true
  | _ => false
theorem each_len {env : Env} : ∀ {l : List Expr}, noStars l = true → (assignEach l env).length = l.length ∧ (assignEach l env).findIdx? (·.1) = none
  | [], _ => ⟨rfl, rfl⟩
  | e :: l, h => by
    obtain ⟨h1, h2⟩ := nostar_split h
    have e1 : assignEach (e :: l) env = (false, assign e env) :: assignEach l env := by cases e <;> first | rfl | cases h1
    obtain ⟨i1, i2⟩ := each_len (env := env) h2
    rw [e1]
    refine ⟨by rw [List.length_cons, List.length_cons, i1], ?_⟩
    rw [List.findIdx?_cons, i2]
    rfl
theorem each_cons {env : Env} {e : Expr} {l : List Expr} (h : starB e = false) : (assignEach (e :: l) env).map (·.2) = assign e env :: (assignEach l env).map (·.2) := by
  cases e <;> first | rfl | cases h
theorem tg_nostars : ∀ (g : Tg) {l : List Expr} {k : Nat} {p : Pos}, chkTg N sc fk g (.Tuple l k p) = true → noStars l = true
  | .name _, l, k, p, h => by simp [chkTg] at h
  | .nil, l, k, p, h => by
    cases l with
    | nil => rfl
    | cons _ _ => simp [chkTg] at h
  | .cons a b, l, k, p, h => by
    cases l with
    | nil => simp [chkTg] at h
    | cons x xs =>
      simp only [chkTg] at h
      rw [Bool.and_eq_true, Bool.and_eq_true] at h
      unfold noStars
      rw [Bool.and_eq_true]
      exact ⟨h.1.1, tg_nostars b h.2⟩
theorem asg_len : ∀ (g : Tg) {l : List Expr} {k : Nat} {p : Pos} {ds : List D} {en en' : Slots}, chkTg N sc fk g (.Tuple l k p) = true → asg g (.d (.tuple ds)) en = some en' → ds.length = l.length
  | .name _, l, k, p, _, _, _, h, _ => by simp [chkTg] at h
  | .nil, l, k, p, ds, _, _, h, e => by
    cases l with
    | nil =>
      cases ds with
      | nil => rfl
      | cons _ _ => simp [asg] at e
    | cons _ _ => simp [chkTg] at h
  | .cons a b, l, k, p, ds, _, _, h, e => by
    cases l with
    | nil => simp [chkTg] at h
    | cons x xs =>
      simp only [chkTg] at h
      rw [Bool.and_eq_true, Bool.and_eq_true] at h
      cases ds with
      | nil => simp [asg] at e
      | cons d ds =>
        simp only [asg] at e
        split at e
        · rw [List.length_cons, List.length_cons, asg_len b h.2 e]
        · cases e
theorem pg_of (g : G T cls ck N sc fk W X) : ∀ (t : Tg), (∀ e, chkTg N sc fk t e = true → PG X e (tG X t)) ∧ ∀ l k p, chkTg N sc fk t (.Tuple l k p) = true → PGs X l (tGs X t)
  | .name i => by
    refine ⟨fun e h => ?_, fun l k p h => by simp [chkTg] at h⟩
    simp only [chkTg] at h
    split at h
    · rename_i x pos
      rw [Bool.and_eq_true, Bool.and_eq_true, decide_eq_true_eq, Bool.or_eq_true, decide_eq_true_eq] at h
      obtain ⟨⟨h1, h2⟩, h3⟩ := h
      refine PG.weak (pg_name (i := i) (by rw [g.hN]; exact g.nd) (by rw [g.hN]; exact h1) (by rw [g.hs]; exact loc_of h2) (by rw [g.hf, g.hs]; exact h3)) fun v σ H Q ⟨en, en', x, st, φ, Hf, F, re, rs, rv, ea, q⟩ => ?_
      cases ea
      refine q _ (re.set rv) (List.length_set ..) fun j hj => ?_
      rw [List.getElem?_set_ne]
      intro z
      exact hj (by simp [tgSlots, z])
    · cases h
  | .nil => by
    have hs : ∀ l k p, chkTg N sc fk .nil (.Tuple l k p) = true → PGs X l (tGs X .nil) := fun l k p h => by
      cases l with
      | nil =>
        refine PGs.weak pgs_nil fun vs σ H Q ⟨en, en', ds, st, φ, Hf, F, re, rs, rv, ea, q⟩ => ?_
        cases ds with
        | nil =>
          cases rv
          cases ea
          exact ⟨rfl, q σ re rfl fun _ _ => rfl⟩
        | cons _ _ => simp [asg] at ea
      | cons _ _ => simp [chkTg] at h
    refine ⟨fun e h => ?_, hs⟩
    have h' := h
    simp only [chkTg] at h
    split at h
    · rename_i k p
      have hst := each_len (env := X.env) (tg_nostars (fk := fk) (N := N) (sc := sc) .nil h')
      refine PG.weak (pg_tup g.calm (hs [] k p h') rfl hst.2) fun v σ H Q ⟨en, en', x, st, φ, Hf, F, re, rs, rv, ea, q⟩ => ?_
      cases x with
      | d d =>
        cases d with
        | tuple ds =>
          cases rv with
          | tup h1 h2 =>
            refine ⟨_, _, rfl, SqT.mono h1 rs.sub, ?_, en, en', ds, st, φ, Hf, F, re, rs, h2, ea, q⟩
            rw [h2.length, asg_len (N := N) (sc := sc) (fk := fk) .nil h' ea]
            rfl
        | _ => simp [asg] at ea
      | ref _ => simp [asg] at ea
    · cases h
  | .cons a b => by
    obtain ⟨ia, _⟩ := pg_of g a
    obtain ⟨_, ib⟩ := pg_of g b
    have hs : ∀ l k p, chkTg N sc fk (.cons a b) (.Tuple l k p) = true → PGs X l (tGs X (.cons a b)) := fun l k p h => by
      cases l with
      | nil => simp [chkTg] at h
      | cons x xs =>
        simp only [chkTg] at h
        rw [Bool.and_eq_true, Bool.and_eq_true, Bool.not_eq_true'] at h
        obtain ⟨⟨h1, h2⟩, h3⟩ := h
        refine PGs.weak (pgs_cons (ia x h2) (ib xs k p h3) (each_cons h1)) fun vs σ H Q ⟨en, en', ds, st, φ, Hf, F, re, rs, rv, ea, q⟩ => ?_
        cases ds with
        | nil => simp [asg] at ea
        | cons d ds =>
          cases rv with
          | cons r1 r2 =>
            simp only [asg] at ea
            split at ea
            · rename_i en1 e1
              refine ⟨_, _, rfl, en, en1, .d d, st, φ, Hf, F, re, rs, r1, e1, fun σ1 re1 hl1 hj1 => ?_⟩
              refine ⟨en1, en', ds, st, φ, Hf, F, re1, rs, r2, ea, fun σ2 re2 hl2 hj2 => ?_⟩
              refine q σ2 re2 (hl2.trans hl1) fun j hj => ?_
              have hj' : j ∉ tgSlots a ∧ j ∉ tgSlots b := by
                rw [tgSlots, List.mem_append, not_or] at hj
                exact hj
              exact (hj2 j hj'.2).trans (hj1 j hj'.1)
            · cases ea
    refine ⟨fun e h => ?_, hs⟩
    have h' := h
    simp only [chkTg] at h
    split at h
    · rename_i x xs k p
      have hst := each_len (env := X.env) (tg_nostars (fk := fk) (N := N) (sc := sc) (.cons a b) h')
      refine PG.weak (pg_tup g.calm (hs (x :: xs) k p h') rfl hst.2) fun v σ H Q ⟨en, en', x, st, φ, Hf, F, re, rs, rv, ea, q⟩ => ?_
      cases x with
      | d d =>
        cases d with
        | tuple ds =>
          cases rv with
          | tup h1 h2 =>
            refine ⟨_, _, rfl, SqT.mono h1 rs.sub, ?_, en, en', ds, st, φ, Hf, F, re, rs, h2, ea, q⟩
            rw [h2.length, asg_len (N := N) (sc := sc) (fk := fk) (.cons a b) h' ea, hst.1]
        | _ => simp [asg] at ea
      | ref _ => simp [asg] at ea
    · cases h
/-! ### what is walked -/
theorem PI.of {tg it : Expr} {x : I} (h : ∀ pins s σ H R, Inv X pins σ H s → tI X cls ck W x σ H R → ∃ t, PI X tg it t ∧ t σ H R) : PI X tg it (tI X cls ck W x) :=
  ⟨fun pins s σ H R I q => let ⟨t, p, r⟩ := h pins s σ H R I q; p.run pins s σ H R I r⟩
theorem foldS (h : setB it = false) (env : Env) (x : Value) : foldedSetIterable it env x = pure x := by
  cases it <;> first | rfl | cases h
theorem pi_ex {a : E} {e tg : Expr} (ha : SE X cls ck W a e) : PI X tg e (tI X cls ck W (.ex a)) := by
  refine PI.of fun pins s σ H Rr I ⟨en, st, φ, Hf, F, re, rs, out⟩ => ?_
  cases hr : evE ck a en st with
  | no => simp only [evI, hr] at out; exact out.elim
  | ex c fs st' =>
    simp only [evI, hr] at out
    exact ⟨_, pi_list ha.pe, en, st, φ, Hf, F, re, rs, by rw [hr]; exact out⟩
  | ok v st' =>
    simp only [evI, hr] at out
    have hL : ∀ Q : VK, (∀ φ' Hf' H', Up φ Hf st.length φ' Hf' st'.length → RS X.K φ' Hf' F st' H' → ∀ V, RV X.K φ' st'.length Hf' v V → Q V H') → tE X cls ck W a σ H Q := fun Q h =>
      ⟨en, st, φ, Hf, F, re, rs, by rw [hr]; exact h⟩
    cases hs : srcOf v st' with
    | none => rw [show (R.ok v st').bind _ = R.ofO (srcOf v st') st' from rfl, hs] at out; exact out.elim
    | some sr =>
      rw [show (R.ok v st').bind _ = R.ofO (srcOf v st') st' from rfl, hs] at out
      unfold srcOf at hs
      split at hs
      · cases hs
        refine ⟨_, pi_list ha.pe, hL _ fun φ' Hf' H' u rs' V rv => ?_⟩
        cases rv with
        | lst h1 h2 => exact ⟨_, rfl, ⟨_, .of (rs'.sub _ _ h1)⟩, out φ' Hf' H' u rs' (fun i z => by cases z) _ (walks_list (.of h1) h2)⟩
      · cases hs
        refine ⟨_, pi_tup ha.pe, hL _ fun φ' Hf' H' u rs' V rv => ?_⟩
        cases rv with
        | tup h1 h2 => exact ⟨_, rfl, ⟨_, SqT.mono h1 rs'.sub⟩, out φ' Hf' H' u rs' (fun i z => by cases z) _ (walks_tup h1 h2)⟩
      · rename_i i
        split at hs
        · rename_i xs ec
          cases hs
          refine ⟨_, pi_list ha.pe, hL _ fun φ' Hf' H' u rs' V rv => ?_⟩
          obtain ⟨hi, rfl⟩ := rv
          obtain ⟨o, e1, ⟨vs, rfl, r⟩, _⟩ := rs'.cell _ _ ec rfl
          exact ⟨_, rfl, ⟨vs, .of e1⟩, out φ' Hf' H' u rs' (fun j z => by cases z; exact ⟨hi, by unfold itemsAt; rw [ec]; rfl⟩) _ rfl⟩
        · rename_i xs ec
          cases hs
          refine ⟨_, pi_list ha.pe, hL _ fun φ' Hf' H' u rs' V rv => ?_⟩
          obtain ⟨hi, rfl⟩ := rv
          obtain ⟨vs, q, r⟩ := rs'.scr _ _ ec
          exact ⟨_, rfl, ⟨vs, SqL.mono q rs'.sub⟩, out φ' Hf' H' u rs' (fun j z => by cases z) _ (walks_list q r)⟩
        · cases hs
      · cases hs
theorem pi_rng1 (g : G T cls ck N sc fk W X) {a : E} {e tg : Expr} {x : Str} {p pos : Pos} (hx : x = ("range" : Str)) (hg : gloB sc x = true) (hs : starB e = false) (ha : SE X cls ck W a e) : PI X tg (.Call (.Name x p) [e] [] pos) (tI X cls ck W (.rng1 a)) := by
  subst hx
  refine PI.weak (pi_range1 (glob_of hg g.hs) (g.free _ (by decide +kernel)) (pa_cons ha.pe pa_nil (star_of hs _ _)) (star_of hs _ _)) fun σ H R ⟨en, st, φ, Hf, F, re, rs, out⟩ => ?_
  refine ⟨en, st, φ, Hf, F, re, rs, (Out.bind out).mono fun v st1 φ1 Hf1 H1 u1 rs1 o1 V1 rv1 => ?_⟩
  obtain ⟨s, e0, o1⟩ := o1.ofO
  cases v with
  | d d =>
    cases d with
    | int i =>
      simp only [intV, Option.bind_some] at e0
      split at e0
      · rename_i hi
        cases e0
        cases rv1
        exact ⟨i, rfl, by omega, by omega, o1.here rs1 (fun j z => by cases z) _ walks_range⟩
      · cases e0
    | _ => simp [intV] at e0
  | ref _ => simp [intV] at e0
theorem pi_rng2 (g : G T cls ck N sc fk W X) {a b : E} {e e2 tg : Expr} {x : Str} {p pos : Pos} (hx : x = ("range" : Str)) (hg : gloB sc x = true) (hs : starB e = false) (hs2 : starB e2 = false) (ha : SE X cls ck W a e) (hb : SE X cls ck W b e2) :
    PI X tg (.Call (.Name x p) [e, e2] [] pos) (tI X cls ck W (.rng2 a b)) := by
  subst hx
  refine PI.weak (pi_range2 (glob_of hg g.hs) (g.free _ (by decide +kernel)) (pa_cons ha.pe (pa_cons hb.pe pa_nil (star_of hs2 _ _)) (star_of hs _ _)) (by rw [star_of hs, star_of hs2]; rfl) (by rw [star_of hs2]; rfl)) fun σ H R ⟨en, st, φ, Hf, F, re, rs, out⟩ => ?_
  refine ⟨en, st, φ, Hf, F, re, rs, (Out.bind out).mono fun v st1 φ1 Hf1 H1 u1 rs1 o1 V1 rv1 => ?_⟩
  refine ⟨en, st1, φ1, Hf1, F, re.up u1, rs1, (Out.bind o1).mono fun y st2 φ2 Hf2 H2 u2 rs2 o2 V2 rv2 => ?_⟩
  split at o2
  · rename_i i j h1 h2
    split at o2
    · rename_i hi
      have ev : v = .d (.int i) := by
        unfold intV at h1
        split at h1
        · cases h1; rfl
        · cases h1
      have ey : y = .d (.int j) := by
        unfold intV at h2
        split at h2
        · cases h2; rfl
        · cases h2
      subst ev ey
      cases rv1
      cases rv2
      exact ⟨i, j, rfl, ⟨by omega, by omega, by omega, by omega⟩, o2.here rs2 (fun j z => by cases z) _ walks_range⟩
    · exact o2.elim
  · exact o2.elim
theorem pi_enm (g : G T cls ck N sc fk W X) {a : E} {e : Expr} {x : Str} {p pos tpos : Pos} {elts : List Expr} {kk : Nat} (hx : x = ("enumerate" : Str)) (hg : gloB sc x = true) (hs : starB e = false) (ha : SE X cls ck W a e) : PI X (.Tuple elts kk tpos) (.Call (.Name x p) [e] [] pos) (tI X cls ck W (.enm a)) := by
  subst hx
  refine PI.weak (pi_enumA (glob_of hg g.hs) (g.free _ (by decide +kernel)) (pa_cons ha.pe pa_nil (star_of hs _ _)) (star_of hs _ _)) fun σ H R ⟨en, st, φ, Hf, F, re, rs, out⟩ => ?_
  refine ⟨en, st, φ, Hf, F, re, rs, (Out.bind out).mono fun v st1 φ1 Hf1 H1 u1 rs1 o1 V1 rv1 => ?_⟩
  split at o1
  · cases rv1 with
    | lst h1 h2 => exact ⟨_, _, rfl, .inl ⟨.of (rs1.sub _ _ h1), o1.here rs1 (fun j z => by cases z) _ (walks_enumL h1 h2)⟩⟩
  · cases rv1 with
    | tup h1 h2 => exact ⟨_, _, rfl, .inr ⟨SqT.mono h1 rs1.sub, o1.here rs1 (fun j z => by cases z) _ (walks_enumT h1 h2)⟩⟩
  · exact o1.elim
theorem pi_zp (g : G T cls ck N sc fk W X) {s : Bool} {a b : E} {e e2 : Expr} {x : Str} {p pos tpos : Pos} {elts : List Expr} {kk : Nat} (hx : x = ("zip" : Str)) (hg : gloB sc x = true) (hs : starB e = false) (hs2 : starB e2 = false) (ha : SE X cls ck W a e) (hb : SE X cls ck W b e2) :
    PI X (.Tuple elts kk tpos) (.Call (.Name x p) [e, e2] [] pos) (tI X cls ck W (.zip s a b)) := by
  subst hx
  refine PI.weak (RZ.pi_zipA (glob_of hg g.hs) (g.free _ (by decide +kernel)) (pa_cons ha.pe (pa_cons hb.pe pa_nil (star_of hs2 _ _)) (star_of hs _ _)) (star_of hs _ _) (noStars_any (by unfold noStars; rw [hs2]; rfl))) fun σ H R ⟨en, st, φ, Hf, F, re, rs, out⟩ => ?_
  refine ⟨en, st, φ, Hf, F, re, rs, (Out.bind out).mono fun v st1 φ1 Hf1 H1 u1 rs1 o1 V1 rv1 => ?_⟩
  refine ⟨en, st1, φ1, Hf1, F, re.up u1, rs1, (Out.bind o1).mono fun y st2 φ2 Hf2 H2 u2 rs2 o2 V2 rv2 => ?_⟩
  have rv1' := rv1.up u2
  split at o2
  · cases rv1' with
    | lst h1 h2 =>
      cases rv2 with
      | lst h3 h4 => exact ⟨_, _, _, _, rfl, .inl ⟨.of (rs2.sub _ _ h1), .of (rs2.sub _ _ h3), o2.here rs2 (fun j z => by cases z) _ (walks_zipL h1 h3 h2 h4)⟩⟩
  · cases rv1' with
    | tup h1 h2 =>
      cases rv2 with
      | tup h3 h4 => exact ⟨_, _, _, _, rfl, .inr ⟨SqT.mono h1 rs2.sub, SqT.mono h3 rs2.sub, o2.here rs2 (fun j z => by cases z) _ (walks_zipT h1 h3 h2 h4)⟩⟩
  · exact o2.elim
/-! ### comprehensions -/
theorem wipe_at {σ : L2.St} : ∀ (vs : List Nat) (j : Nat), (L2.wipe σ vs)[j]? = if j ∈ vs then (σ[j]?).map (fun _ => none) else σ[j]?
  | [], j => by simp [L2.wipe]
  | v :: vs, j => by
    unfold L2.wipe
    by_cases h : v = j
    · subst h
      rw [if_pos List.mem_cons_self]
      by_cases hl : v < (L2.wipe σ vs).length
      · rw [List.getElem?_set_self hl]
        rw [L2.wipe_length] at hl
        rw [List.getElem?_eq_getElem hl]
        rfl
      · rw [List.getElem?_eq_none (by simpa using hl)]
        rw [L2.wipe_length] at hl
        rw [List.getElem?_eq_none (by simpa using hl)]
        rfl
    · rw [List.getElem?_set_ne h, wipe_at vs j]
      by_cases hm : j ∈ vs
      · rw [if_pos hm, if_pos (List.mem_cons_of_mem _ hm)]
      · rw [if_neg hm, if_neg (by simp [hm, Ne.symm h])]
theorem wipe_same {σ σ2 : L2.St} {vs : List Nat} (hl : σ2.length = (L2.wipe σ vs).length) (h : ∀ j, j ∉ vs → σ2[j]? = (L2.wipe σ vs)[j]?) : L2.wipe σ2 vs = L2.wipe σ vs := by
  apply List.ext_getElem?
  intro j
  rw [wipe_at]
  by_cases hm : j ∈ vs
  · rw [if_pos hm, wipe_at, if_pos hm]
    rw [L2.wipe_length] at hl
    by_cases hj : j < σ.length
    · rw [List.getElem?_eq_getElem (by omega), List.getElem?_eq_getElem hj]
      rfl
    · rw [List.getElem?_eq_none (by omega), List.getElem?_eq_none (by omega)]
  · rw [if_neg hm, h j hm]
def rem (H : Hp) (D : Addr) : Hp := fun a => if a = D then none else H a
theorem rem_same {H : Hp} {D : Addr} : rem H D D = none := if_pos rfl
theorem rem_upd {H : Hp} {D : Addr} {o : HO} (h : H D = some o) : upd (rem H D) D o = H := by
  funext a
  unfold upd rem
  by_cases e : a = D
  · rw [if_pos e, e, h]
  · rw [if_neg e, if_neg e]
section
variable {K : PySem.W.Frag} {φ : Nat → Addr} {Hf F : Hp} {st : Sto} {H : Hp} {D : Addr}
theorem RS.framed (rs : RS K φ Hf F st H) (hD : H D = none) (o : HO) : RS K φ Hf (upd F D o) st (upd H D o) := by
  have hfp : Hf D = none := by
    cases e : Hf D with
    | none => rfl
    | some u => rw [rs.sub D u e] at hD; cases hD
  refine ⟨fun a x h => ?_, fun a x h => ?_, fun a x h => ?_, fun i c h1 h2 => ?_, rs.inj, rs.scr⟩
  · rw [upd_ne (ne_of_none h hfp)]; exact rs.sub _ _ h
  · by_cases e : a = D
    · subst e; rw [upd_same] at h ⊢; exact h
    · rw [upd_ne e] at h ⊢; exact rs.fr _ _ h
  · by_cases e : a = D
    · subst e; exact hfp
    · rw [upd_ne e] at h; exact rs.dis _ _ h
  · obtain ⟨ob, e, ro, z1, z2⟩ := rs.cell i c h1 h2
    have ne : φ i ≠ D := rs.ne_live hD ⟨c, h1, h2⟩
    exact ⟨ob, by rw [upd_ne ne]; exact e, ro, z1, by rw [upd_ne ne]; exact z2⟩
theorem RS.reframe {o : HO} (rs : RS K φ Hf (upd F D o) st H) (o' : HO) : RS K φ Hf (upd F D o') st (upd H D o') := by
  have hfp : Hf D = none := rs.dis D o upd_same
  refine ⟨fun a x h => ?_, fun a x h => ?_, fun a x h => ?_, fun i c h1 h2 => ?_, rs.inj, rs.scr⟩
  · rw [upd_ne (ne_of_none h hfp)]; exact rs.sub _ _ h
  · by_cases e : a = D
    · subst e; rw [upd_same] at h ⊢; exact h
    · rw [upd_ne e] at h ⊢
      exact rs.fr _ _ (by rw [upd_ne e]; exact h)
  · by_cases e : a = D
    · subst e; exact hfp
    · rw [upd_ne e] at h
      exact rs.dis a x (by rw [upd_ne e]; exact h)
  · obtain ⟨ob, e, ro, z1, z2⟩ := rs.cell i c h1 h2
    have ne : φ i ≠ D := fun z => by rw [z, upd_same] at z2; cases z2
    rw [upd_ne ne] at z2
    exact ⟨ob, by rw [upd_ne ne]; exact e, ro, z1, by rw [upd_ne ne]; exact z2⟩
theorem RS.unframe {o : HO} (rs : RS K φ Hf (upd F D o) st H) (hF : F D = none) : RS K φ Hf F st (rem H D) := by
  have hfp : Hf D = none := rs.dis D o upd_same
  refine ⟨fun a x h => ?_, fun a x h => ?_, fun a x h => ?_, fun i c h1 h2 => ?_, rs.inj, rs.scr⟩
  · show (if a = D then none else H a) = _
    rw [if_neg (ne_of_none h hfp)]
    exact rs.sub _ _ h
  · have e : a ≠ D := ne_of_none h hF
    show (if a = D then none else H a) = _
    rw [if_neg e]
    exact rs.fr _ _ (by rw [upd_ne e]; exact h)
  · have e : a ≠ D := ne_of_none h hF
    exact rs.dis a x (by rw [upd_ne e]; exact h)
  · obtain ⟨ob, e, ro, z1, z2⟩ := rs.cell i c h1 h2
    have ne : φ i ≠ D := fun z => by rw [z, upd_same] at z2; cases z2
    rw [upd_ne ne] at z2
    refine ⟨ob, ?_, ro, z1, z2⟩
    show (if φ i = D then none else H (φ i)) = _
    rw [if_neg ne]
    exact e
end
/-- a comprehension's test -/
def tC (X : Cx) (cls : Nat → Addr) (ck : Ck) : Eo → TT
  | .none => tYes
  | .some a => tT X cls ck WNo a
def lcF (ck : Ck) (x : E) (own : List Nat) (g : Tg) (c : Eo) (en : Slots) (v : Val) (st2 : Sto) : R (List Val) :=
  match asg g v (wipeE en own) with
  | none => .no
  | some en1 => (evC ck c en1 st2).bind fun b st3 => if b then (evE ck x en1 st3).bind fun y st4 => .ok [y] st4 else .ok [] st3
theorem lc_turn {x : E} {own : List Nat} {g : Tg} {c : Eo} {en : Slots} {σ : L2.St} {v : Val} {V1 : V} {st' stA : Sto} {ys : List Val} {φ' : Nat → Addr} {Hf' F H' : Hp} {D : Addr} {accV : List V} {done : List Val} {Nx : Hp → Prop}
    (hown : ∀ i ∈ tgSlots g, i ∈ own) (hf : lcF ck x own g c en v st' = .ok ys stA) (rs : RS X.K φ' Hf' (upd F D (.lst accV)) st' H') (rv : RV X.K φ' st'.length Hf' v V1) (re : RE X.K φ' st'.length Hf' en σ) (rd : RVs X.K φ' st'.length Hf' done accV) (hlen : done.length + ys.length ≤ sizeLine)
    (hNx : ∀ φ2 Hf2 H2 accV', Up φ' Hf' st'.length φ2 Hf2 stA.length → RS X.K φ2 Hf2 (upd F D (.lst accV')) stA H2 → RVs X.K φ2 stA.length Hf2 (done ++ ys) accV' → Nx H2) :
    tG X g V1 (L2.wipe σ own) H' fun σ2 H2 => L2.wipe σ2 own = L2.wipe σ own ∧ tC X cls ck c σ2 H2 fun b H3 =>
      if b = true then tE X cls ck WNo x σ2 H3 fun y H4 => ∃ acc, H4 D = some (.lst acc) ∧ acc.length < sizeLine ∧ Nx (upd H4 D (.lst (acc ++ [y]))) else Nx H3 := by
  unfold lcF at hf
  cases ea : asg g v (wipeE en own) with
  | none => rw [ea] at hf; cases hf
  | some en1 =>
    rw [ea] at hf
    obtain ⟨b, st3, hc, hf⟩ := R.bind_ok hf
    refine ⟨wipeE en own, en1, v, st', φ', Hf', upd F D (.lst accV), re.wipe own, rs, rv, ea, fun σ2 re2 hl hj => ⟨wipe_same hl fun j hm => hj j fun z => hm (hown j z), ?_⟩⟩
    have fin : ∀ φ3 Hf3 H3, Up φ' Hf' st'.length φ3 Hf3 st3.length → RS X.K φ3 Hf3 (upd F D (.lst accV)) st3 H3 →
        if b = true then tE X cls ck WNo x σ2 H3 fun y H4 => ∃ acc, H4 D = some (.lst acc) ∧ acc.length < sizeLine ∧ Nx (upd H4 D (.lst (acc ++ [y]))) else Nx H3 := fun φ3 Hf3 H3 u3 rs3 => by
      cases b with
      | true =>
        rw [if_pos rfl] at hf
        obtain ⟨y, st4, hy, hf⟩ := R.bind_ok hf
        cases hf
        refine ifT ⟨en1, st3, φ3, Hf3, upd F D (.lst accV), re2.up u3, rs3, ?_⟩
        rw [hy]
        intro φ4 Hf4 H4 u4 rs4 V rv4
        refine ⟨accV, rs4.fr _ _ upd_same, ?_, ?_⟩
        · have := rd.length
          rw [List.length_singleton] at hlen
          omega
        · exact hNx φ4 Hf4 _ _ (u3.trans u4) (rs4.reframe _) (pairApp (RVs.up rd (u3.trans u4)) (.cons rv4 .nil))
      | false =>
        rw [if_neg (by decide)] at hf
        cases hf
        refine ifF ?_
        exact hNx φ3 Hf3 H3 accV u3 rs3 (by rw [List.append_nil]; exact RVs.up rd u3)
    cases c with
    | none =>
      cases hc
      exact fin φ' Hf' H' Up.refl rs
    | some a =>
      simp only [evC] at hc
      obtain ⟨w, st5, hw, hc⟩ := R.bind_ok hc
      obtain ⟨hb, e5⟩ := R.ofO_ok hc
      subst e5
      refine ⟨en1, st', φ', Hf', upd F D (.lst accV), re2, rs, ?_⟩
      rw [hw]
      intro φ3 Hf3 H3 u3 rs3
      exact ⟨b, hb, fin φ3 Hf3 H3 u3 rs3⟩
theorem mkL_ok {r : Bool} {xs : List Val} {st : Sto} (h : mkL r xs st ≠ .no) : xs.length ≤ sizeLine := by
  unfold mkL at h
  split at h
  · assumption
  · exact absurd rfl h
theorem mkL_calm {r : Bool} {xs : List Val} {st : Sto} : (mkL r xs st).calm = mkL r xs st := by
  unfold mkL
  split
  · split
    · rfl
    · split <;> rfl
  · rfl
theorem calm_ok {α : Type} {K : PySem.W.Frag} {F : Hp} {W : XW} {φ : Nat → Addr} {Hf : Hp} {n : Nat} {r : R α} {k : KT α} (h : Out K F W φ Hf n r.calm k) : ∃ a st, r = .ok a st := by
  cases r with
  | ok a st => exact ⟨a, st, rfl⟩
  | ex _ _ _ => exact h.elim
  | no => exact h.elim
theorem live_at {K : PySem.W.Frag} {φ : Nat → Addr} {Hf F : Hp} {st : Sto} {H : Hp} {i : Nat} {xs : List Val} (rs : RS K φ Hf F st H) (h : itemsAt st i = some xs) : ∃ vs, SqL K H (φ i) vs ∧ RVs K φ st.length Hf xs vs := by
  unfold itemsAt at h
  split at h
  · rename_i ys e
    cases h
    obtain ⟨o, e1, ⟨vs, rfl, r⟩, _⟩ := rs.cell _ _ e rfl
    exact ⟨vs, .of e1, r⟩
  · cases h
/-- what a turn over known data begins with -/
theorem walk_step {K : PySem.W.Frag} {φ : Nat → Addr} {B Hf F : Hp} {st : Sto} {H H' : Hp} {J : It} {zs : List D} {i : Nat} {x : V} {d : D} (hJ : Walks K J B zs) (hB : ∀ a o, B a = some o → Hf a = some o) (rs : RS K φ Hf F st H) (hd : zs[i]? = some d) (hy : J.yld i H x H') :
    ∃ Hf', RS K φ Hf' F st H' ∧ Up φ Hf st.length φ Hf' st.length ∧ Dq K Hf' x d := by
  rcases hJ.yld i H x H' d (fun a o z => rs.sub _ _ (hB _ _ z)) hd hy with ⟨rfl, q⟩ | ⟨p, vs, ds, rfl, rfl, hp, rfl, q⟩
  · exact ⟨Hf, rs, Up.refl, Dq.mono hB d q⟩
  · obtain ⟨r, u⟩ := rs.lay (o := .tup vs) hp
    exact ⟨_, r, u, .tup (.of upd_same) (Dq.monoAll (fun a o z => u.up _ _ (hB _ _ z)) ds q)⟩
theorem SqL.inj' {K : PySem.W.Frag} {H : Hp} {a : Addr} {xs : List V} {x : V} {i : Nat} (h : ∀ ys, SqL K H a ys → ys[i]? = some x) (g : SqL K H a xs) : xs[i]? = some x := h xs g
theorem se_lc (gX : G T cls ck N sc fk W X) {r : Bool} {x : E} {own : List Nat} {g : Tg} {it : I} {c : Eo} {x' tg it' : Expr} {cs : List Expr} {scope : Scope} {pos : Pos}
    (hok : blkC N sc scope (ownP N own) = true) (hown : ∀ i ∈ tgSlots g, i ∈ own) (hi : PI X tg it' (tI X cls ck W it)) (hset : setB it' = false)
    (hg : ∀ (s : Shared) (H : Hp) (C : Addr) (cl : List (Str × Addr)) (fp : List Addr), PG (X.blk s H scope (compEnvC scope cl C X.env) fp) tg (tG X g))
    (ht : ∀ (s : Shared) (H : Hp) (C : Addr) (cl : List (Str × Addr)) (fp : List Addr), PTs (X.blk s H scope (compEnvC scope cl C X.env) fp) cs (tC X cls ck c))
    (he : ∀ (s : Shared) (H : Hp) (C : Addr) (cl : List (Str × Addr)) (fp : List Addr), PE (X.blk s H scope (compEnvC scope cl C X.env) fp) x' (tE X cls ck WNo x)) :
    SE X cls ck W (.lc r x own g it c) (.ListComp x' [⟨tg, it', cs, 0⟩] scope pos) ∧
      ∀ σ H Q, tE X cls ck W (.lc r x own g it c) σ H Q → tLc (tI X cls ck W it) (tG X g) (tC X cls ck c) (tE X cls ck WNo x) ((ownP N own).map (·.2)) σ H Q := by
  have eown : (ownP N own).map (·.2) = own := by
    unfold ownP
    rw [List.map_map]
    exact List.map_id' own
  have key : ∀ σ H Q, tE X cls ck W (.lc r x own g it c) σ H Q → tLc (tI X cls ck W it) (tG X g) (tC X cls ck c) (tE X cls ck WNo x) ((ownP N own).map (·.2)) σ H Q := by
    rw [eown]
    intro σ H Q ⟨en, st, φ, Hf, F, re, rs, out⟩
    refine ⟨en, st, φ, Hf, F, re, rs, (Out.bind out).mono fun s st1 φ1 Hf1 H1 u1 rs1 o1 hlive J hJ D hD => ?_⟩
    have o1 : Out X.K F (kEx cls W σ) φ1 Hf1 st1.length ((mapSrc (lcF ck x own g c en) s st1).bind (mkL r)).calm (kQ X.K Q) := o1
    obtain ⟨v0, st0, h0⟩ := calm_ok o1
    obtain ⟨all, st2, hall, hmk⟩ := R.bind_ok h0
    have hlen : all.length ≤ sizeLine := mkL_ok (r := r) (st := st2) (by rw [hmk]; intro z; cases z)
    have hFD : F D = none := by
      cases e : F D with
      | none => rfl
      | some u => rw [rs1.fr D u e] at hD; cases hD
    rw [hall] at o1
    have o2 : Out X.K F (kEx cls W σ) φ1 Hf1 st1.length (mkL r all st2) (kQ X.K Q) := by
      rw [← mkL_calm]
      exact o1
    have fin : ∀ φ' Hf' accV H', Up φ1 Hf1 st1.length φ' Hf' st2.length → RS X.K φ' Hf' (upd F D (.lst accV)) st2 H' → RVs X.K φ' st2.length Hf' all accV → Q (.ref D) H' := fun φ' Hf' accV H' u rs' rv => by
      have q := (mkL_fin (rs'.unframe hFD) rv (o2.from u)).2 D rem_same
      rw [rem_upd (rs'.fr _ _ upd_same)] at q
      exact q
    cases s with
    | stat zs =>
      have hJ : Walks X.K J Hf1 zs := hJ
      refine ⟨fun i m H => m = zs.length - i ∧ i ≤ zs.length ∧ ∃ done ys st' φ' Hf' accV, Up φ1 Hf1 st1.length φ' Hf' st'.length ∧ RS X.K φ' Hf' (upd F D (.lst accV)) st' H ∧ RVs X.K φ' st'.length Hf' done accV ∧ mapS (lcF ck x own g c en) (zs.drop i) st' = .ok ys st2 ∧ done ++ ys = all,
        ⟨_, rfl, Nat.zero_le _, [], all, st1, φ1, Hf1, [], Up.refl, rs1.framed hD _, .nil, hall, rfl⟩, fun i m H hW => ?_⟩
      obtain ⟨rfl, hi, done, ys, st', φ', Hf', accV, u, rs', rd, hm, hdone⟩ := hW
      have hB : ∀ a o, Hf1 a = some o → H a = some o := fun a o z => rs'.sub _ _ (u.up _ _ z)
      by_cases hlt : i < zs.length
      · refine .inr ⟨hJ.go i H hB hlt, fun H' => (fun i m H => m = zs.length - i ∧ i ≤ zs.length ∧ ∃ done ys st' φ' Hf' accV, Up φ1 Hf1 st1.length φ' Hf' st'.length ∧ RS X.K φ' Hf' (upd F D (.lst accV)) st' H ∧ RVs X.K φ' st'.length Hf' done accV ∧ mapS (lcF ck x own g c en) (zs.drop i) st' = .ok ys st2 ∧ done ++ ys = all) (i + 1) (zs.length - (i + 1)) H', fun H' hN => ⟨zs.length - (i + 1), by omega, hN⟩, fun V1 H' hy => ?_⟩
        have hd : zs[i]? = some zs[i] := List.getElem?_eq_getElem hlt
        obtain ⟨Hf2, rs2, u2, q2⟩ := walk_step hJ (fun a o z => u.up _ _ z) rs' hd hy
        rw [List.drop_eq_getElem_cons hlt] at hm
        obtain ⟨ys1, stA, h1, hm⟩ := R.bind_ok (show (lcF ck x own g c en (.d zs[i]) st').bind _ = .ok ys st2 from hm)
        obtain ⟨ys2, stB, h2, hm⟩ := R.bind_ok hm
        cases hm
        refine lc_turn hown h1 rs2 q2 (re.up (u1.trans (u.trans u2))) (RVs.up rd u2) ?_ fun φ3 Hf3 H3 accV' u3 rs3 rd3 => ?_
        · rw [← hdone, List.length_append, List.length_append] at hlen
          omega
        · exact ⟨rfl, hlt, done ++ ys1, ys2, stA, φ3, Hf3, accV', u.trans (u2.trans u3), rs3, rd3, h2, by rw [List.append_assoc]; exact hdone⟩
      · have ei : i = zs.length := by omega
        subst ei
        rw [List.drop_length] at hm
        cases hm
        rw [List.append_nil] at hdone
        subst hdone
        exact .inl ⟨hJ.stop H hB, fin φ' Hf' accV H u rs' rd⟩
    | live i =>
      have hJ : J = Itl X.K (φ1 i) := hJ
      subst hJ
      obtain ⟨hil, _⟩ := hlive i rfl
      refine ⟨fun k m H => ∃ done ys st' φ' Hf' accV, Up φ1 Hf1 st1.length φ' Hf' st'.length ∧ RS X.K φ' Hf' (upd F D (.lst accV)) st' H ∧ RVs X.K φ' st'.length Hf' done accV ∧ mapLive (lcF ck x own g c en) i m k st' = .ok ys st2 ∧ done ++ ys = all,
        ⟨_, [], all, st1, φ1, Hf1, [], Up.refl, rs1.framed hD _, .nil, hall, rfl⟩, fun k m H hW => ?_⟩
      obtain ⟨done, ys, st', φ', Hf', accV, u, rs', rd, hm, hdone⟩ := hW
      cases m with
      | zero => cases hm
      | succ m =>
        simp only [mapLive] at hm
        split at hm
        · rename_i xs hx
          obtain ⟨vs, hv, rv⟩ := live_at rs' hx
          rw [u.eq i hil] at hv
          split at hm
          · rename_i hn
            cases hm
            rw [List.append_nil] at hdone
            subst hdone
            refine .inl ⟨⟨vs, hv, ?_⟩, fin φ' Hf' accV H u rs' rd⟩
            rw [← rv.length]
            exact List.getElem?_eq_none_iff.mp hn
          · rename_i y hy
            obtain ⟨V2, h3, h4⟩ := at_pair rv hy
            refine .inr ⟨⟨vs, V2, hv, h3⟩, fun H' => (fun k m H => ∃ done ys st' φ' Hf' accV, Up φ1 Hf1 st1.length φ' Hf' st'.length ∧ RS X.K φ' Hf' (upd F D (.lst accV)) st' H ∧ RVs X.K φ' st'.length Hf' done accV ∧ mapLive (lcF ck x own g c en) i m k st' = .ok ys st2 ∧ done ++ ys = all) (k + 1) m H', fun H' hN => ⟨m, Nat.lt_succ_self _, hN⟩, fun V1 H' hyy => ?_⟩
            obtain ⟨rfl, hz⟩ := hyy
            have := hz vs hv
            rw [h3] at this
            cases this
            obtain ⟨ys1, stA, h1, hm⟩ := R.bind_ok hm
            obtain ⟨ys2, stB, h2, hm⟩ := R.bind_ok hm
            cases hm
            refine lc_turn hown h1 rs' h4 (re.up (u1.trans u)) rd ?_ fun φ3 Hf3 H3 accV' u3 rs3 rd3 => ?_
            · rw [← hdone, List.length_append, List.length_append] at hlen
              omega
            · exact ⟨done ++ ys1, ys2, stA, φ3, Hf3, accV', u.trans u3, rs3, rd3, h2, by rw [List.append_assoc]; exact hdone⟩
        · cases hm
  refine ⟨.gen (PE.weak (pe_lc gX.calm (by rw [gX.hN]; exact gX.nd) hi (by rw [gX.hN, gX.hs]; exact blkOk_by hok) hg ht he (foldS hset _)) key) (fun _ => rfl) (fun _ _ _ z => by cases z), key⟩
end
end Ev
set_option Elab.async false
set_option linter.all false
set_option maxRecDepth 100000
set_option maxHeartbeats 3200000
/-! Ev12s: the set of a list of ints (the library has that of a tuple), and how many members it can have. -/
namespace Ev
open PySem PySem.Spec PyProof.Rows L2
section
variable {P : Program} {w : World} {A : Around} {E : Value → Shared → Prop} {s : Shared}
abbrev noSet (w : World) : Obj := { cls := .type "set", dict := none, data := .set #[] 0 (.fresh 0 0 (!w.params.followText "set-order")) }
abbrev withSet (w : World) (h : Heap) : Heap := h.push (noSet w)
/-- what the set's own init leaves -/
def Filled (w : World) (s : Shared) (ns : List Int) (r : Value) (t : Shared) : Prop :=
  r = .none ∧ ∃ (g : Heap) (k c : Nat), t = { s with heap := g, toks := k } ∧ SetR w g s.heap.objs.size (fun j => decide (j ∈ ns)) c ∧ c ≤ ns.length ∧ ∀ b o, s.heap.get? b = some o → g.get? b = some o
theorem set_of_list {p : Addr} {its : Array Value} (ns : List Int) {Q : Value → Shared → Prop} (nh : A.handled = none) (il : s.heap.IsList p its) (iti : IntsAre its.toList ns) (few : ns.length + 1 < scanBound)
    (fin : ∀ (g : Heap) (k c : Nat), SetR w g s.heap.objs.size (fun j => decide (j ∈ ns)) c → c ≤ ns.length → (∀ b o, s.heap.get? b = some o → g.get? b = some o) → Q (.ref s.heap.objs.size) { s with heap := g, toks := k }) :
    wpAny (model P w) A (call (.type "set") [.ref p]) Q E s := by
  have zl : its.size = ns.length := (Array.length_toList (xs := its)) ▸ IntsAre.length iti
  have x1 := F.called_set.notType; have x2 := F.called_set.canCreate; have x3 := F.typeCall_set_1 (.ref p)
  have x4 := F.called_set.made; have x5 := F.called_set.sub; obtain ⟨c0, t0, x6⟩ := F.called_set.mro
  refine wpAny_call (codeAny_of_tree (wpAny_pure (a := _) ⟨Code.quiet_builtin _ (by decide +kernel), codeAny_builtin F.entry_type_call ?_⟩)); rw [Around.under_plain (weight_type_call_type "set" [.ref p] []) rfl]
  repeat any_goals first | assumption | wp_step

  refine codeAny_mono (code_set_led1 (.ref p) (E := E) (Q₁ := fun v t => v = .ref s.heap.objs.size ∧ t = { s with heap := withSet w s.heap }) ⟨rfl, rfl⟩) fun r1 t1 z1 => ?_
  rcases r1 with e | f1
  · exact z1
  · cases f1 with
    | ret v1 =>
      obtain ⟨rfl, rfl⟩ := z1
      have at0 : (withSet w s.heap).get? s.heap.objs.size = some (noSet w) := Heap.get?_push_size _ rfl
      have ty0 : Shared.TypeIs { s with heap := withSet w s.heap } (.ref s.heap.objs.size) "set" := ⟨_, at0, rfl⟩
      have x7 := F.called_set.init.lookup; have x8 := F.called_set.init.bind (.ref s.heap.objs.size)
      repeat any_goals first | assumption | wp_step

      refine codeAny_mono (codeAny_call_builtin (R := wants (Filled w s ns) E) F.called_set.init.plain F.entry_set_init (check_set_init_1 ty0 ?_)) fun r2 t2 z2 => ?_
      · obtain ⟨⟨oc, od, dt, osl⟩, ho, hc, n0, hd⟩ := il
        dsimp only at hc hd
        subst hc hd
        have ho' : (withSet w s.heap).get? p = some { cls := .type "list", dict := od, data := .seq its n0, slots := osl } := Heap.get?_push_of_some _ ho
        have y1 := F.sub_list_set; have y2 := F.sub_list_frozenset
        have y3 : (Value.type "list" == Value.type "dict") = false := by decide
        have il1 : (withSet w s.heap).IsList p its := ⟨_, ho', rfl, n0, rfl⟩
        unfold Builtin.«set.__init__» noKeywords Builtin.Frozenset.updateFrom
        generalize hI : pyIter = I
        wp_walk
        subst hI
        refine wpAny_pyIter_list il1 (wpAny_bind (wpAny_runValue ?_))
        have lt0 : p < s.heap.objs.size := Heap.lt_size ho
        have z0 : (withSet w s.heap).objs.size = s.heap.objs.size + 1 := Heap.size_push ..
        have nh3 : A.in1.in1.in1.handled = none := by simp [nh]
        have ne0 : p ≠ (withSet w s.heap).objs.size := by rw [z0]; exact Nat.ne_of_lt (Nat.lt_succ_of_lt lt0)
        have out0 : s.heap.objs.size ∉ [(withSet w s.heap).objs.size, p] := by
          simp only [List.mem_cons, List.not_mem_nil, or_false, not_or]
          exact ⟨by rw [z0]; exact Nat.ne_of_lt (Nat.lt_succ_self _), Nat.ne_of_gt lt0⟩
        have val0 : ∀ (i : Nat) (v : Value), its[i]? = some v → ∃ k t, ns[i]? = some k ∧ v = .int k t := fun i v hv => by
          have li : i < ns.length := zl ▸ (Array.getElem?_eq_some_iff.mp hv).1
          obtain ⟨t, e⟩ := IntsAre.int_at iti i v (by rw [Array.getElem?_toList]; exact hv)
          exact ⟨ns[i], t, List.getElem?_eq_getElem li, by rw [e, List.getD_eq_getElem?_getD, List.getElem?_eq_getElem li, Option.getD_some]⟩
        refine set_update_ints ((Walks.list nh3 _ p ne0 its).toS) s.heap.objs.size out0 ns zl few val0 (its.size - 0) 0 _ (by omega) (Nat.zero_le _) ⟨⟨_, Heap.get?_push_size _ rfl, rfl, rfl⟩, (il1.push _)⟩ ?first ?last
        case first =>
          exact ⟨0, Nat.le_refl 0, setR_new_at (Heap.get?_push_of_some _ at0)⟩
        case last =>
          intro t c mv lc hS
          obtain ⟨g, g2, d2, k2, o2⟩ := t
          have eg : g2 = s.gens := mv.gens
          have ed : d2 = s.drawn := mv.drawn
          have eo : o2 = s.os := mv.os
          subst eg ed eo
          refine wpAny_pure (a := _) (wpAny_pure (a := _) ⟨rfl, g, k2, c, rfl, hS, zl ▸ lc, fun b o e => ?_⟩)
          have lb : b < s.heap.objs.size := Heap.lt_size e
          refine mv.heap b o ?_ (Heap.get?_push_of_some _ (Heap.get?_push_of_some _ e))
          simp only [List.mem_cons, List.not_mem_nil, or_false, not_or]
          exact ⟨Nat.ne_of_lt lb, by rw [z0]; exact Nat.ne_of_lt (Nat.lt_succ_of_lt lb)⟩
      · rcases r2 with e | f2
        · exact z2
        · cases f2 with
          | ret v2 =>
            obtain ⟨rfl, g, k, c, rfl, hS, lc, keep⟩ := z2
            repeat any_goals first | assumption | wp_step
            exact fin _ _ _ hS lc keep
          | _ => exact z2.elim
    | _ => exact z1.elim
end
/-! ### how many members -/
theorem nodup_le : ∀ {l m : List Int}, l.Nodup → (∀ x ∈ l, x ∈ m) → l.length ≤ m.length
  | [], _, _, _ => Nat.zero_le _
  | x :: l, m, hn, hs => by
    obtain ⟨h1, h2⟩ := List.nodup_cons.mp hn
    have hx := hs x List.mem_cons_self
    have := nodup_le (l := l) (m := m.erase x) h2 fun y hy => (List.mem_erase_of_ne (fun e : y = x => h1 (by rw [← e]; exact hy))).mpr (hs y (List.mem_cons_of_mem _ hy))
    rw [List.length_erase_of_mem hx] at this
    have := List.length_pos_of_mem hx
    rw [List.length_cons]
    omega
theorem setR_len {w : World} {h : Heap} {a : Addr} {ns ms : List Int} {c : Nat} (r : SetR w h a (fun j => decide (j ∈ ns)) c) (hm : ∀ x ∈ ns, x ∈ ms) : c ≤ ms.length := by
  obtain ⟨o, es, ep, t, _, _, _, _, nd, hk, _, _, hn, _⟩ := r
  have := nodup_le (m := ms) nd fun x hx => hm x (of_decide_eq_true ((hk x).mpr hx))
  rw [List.length_map, Array.length_toList, hn] at this
  exact this
end Ev
set_option Elab.async false
set_option linter.all false
set_option maxRecDepth 100000
/-! Ev12b: sorted(set(..)) of ints, dict displays, dict comprehensions. -/
namespace Ev
open PySem PySem.Spec PyProof.Rows L2

/-! ### sorted(set(..)) -/
theorem insU_mem {x : Int} : ∀ {l : List Int} {y : Int}, y ∈ insU x l ↔ y = x ∨ y ∈ l
  | [], y => by simp [insU]
  | z :: l, y => by
    unfold insU
    split
    · simp
    · split
      · rename_i h
        subst h
        simp
      · rw [List.mem_cons, insU_mem, List.mem_cons]
        constructor <;> (intro h; rcases h with h | h | h <;> simp [h])
theorem insU_pw {x : Int} : ∀ {l : List Int}, l.Pairwise (· < ·) → (insU x l).Pairwise (· < ·)
  | [], _ => by simp [insU]
  | z :: l, h => by
    obtain ⟨h1, h2⟩ := List.pairwise_cons.mp h
    unfold insU
    split
    · rename_i hx
      refine List.pairwise_cons.mpr ⟨fun y hy => ?_, h⟩
      rcases List.mem_cons.mp hy with e | e
      · rw [e]; exact hx
      · have := h1 y e; omega
    · split
      · exact h
      · rename_i a b
        refine List.pairwise_cons.mpr ⟨fun y hy => ?_, insU_pw h2⟩
        rcases insU_mem.mp hy with e | e
        · rw [e]; omega
        · exact h1 y e
theorem ssetI_mem : ∀ {l : List Int} {y : Int}, y ∈ ssetI l ↔ y ∈ l
  | [], y => Iff.rfl
  | x :: l, y => by
    unfold ssetI
    rw [insU_mem, ssetI_mem, List.mem_cons]
theorem ssetI_pw : ∀ l : List Int, (ssetI l).Pairwise (· < ·)
  | [] => List.Pairwise.nil
  | x :: l => insU_pw (ssetI_pw l)
theorem pw_ext : ∀ {l m : List Int}, l.Pairwise (· < ·) → m.Pairwise (· < ·) → (∀ y, y ∈ l ↔ y ∈ m) → l = m
  | [], [], _, _, _ => rfl
  | [], x :: m, _, _, h => by have := (h x).mpr List.mem_cons_self; cases this
  | x :: l, [], _, _, h => by have := (h x).mp List.mem_cons_self; cases this
  | x :: l, z :: m, h1, h2, h => by
    obtain ⟨a1, a2⟩ := List.pairwise_cons.mp h1
    obtain ⟨b1, b2⟩ := List.pairwise_cons.mp h2
    have e : x = z := by
      rcases List.mem_cons.mp ((h x).mp List.mem_cons_self) with e | e
      · exact e
      · rcases List.mem_cons.mp ((h z).mpr List.mem_cons_self) with e' | e'
        · exact e'.symm
        · have := a1 z e'
          have := b1 x e
          omega
    subst e
    rw [pw_ext a2 b2 fun y => ?_]
    constructor
    · intro hy
      rcases List.mem_cons.mp ((h y).mp (List.mem_cons_of_mem _ hy)) with e | e
      · subst e; have := a1 y hy; omega
      · exact e
    · intro hy
      rcases List.mem_cons.mp ((h y).mpr (List.mem_cons_of_mem _ hy)) with e | e
      · subst e; have := b1 y hy; omega
      · exact e
section
variable {X : Cx} {cls : Nat → Addr} {ck : Ck} {W : WX} {T : Tx} {N : List Str} {sc : Scope} {fk : Str → Bool}
theorem cr_setSeq (hc : X.calm = true) : CallR X (.type "set") (fun vs H Q => ∃ (p : Addr) (ns : List Int), vs = [V.ref p] ∧ (SqT X.K H p (ns.map V.int) ∨ SqL X.K H p (ns.map V.int)) ∧ ns.length ≤ 4000 ∧ ∀ q c, H q = none → c ≤ (ssetI ns).length → Q (.ref q) (upd H q (SetO X.w q (fun j => decide (j ∈ ns)) c))) := by
  intro pins s σ H vs us Q I r ⟨p, ns, e, hp, hl, q⟩
  subst e
  obtain ⟨u1, rfl, ru⟩ := vals1 r
  cases ru
  have hm : ∀ x ∈ ns, x ∈ ssetI ns := fun x hx => ssetI_mem.mpr hx
  rcases hp with hp | hp
  · obtain ⟨its, rv, pt, hz⟩ := I.tuple hp
    refine call_set_tupI ns (I.ok.hd hc) (show s.heap.IsTuple p its.toArray from pt) (ints_of_vals rv) (by unfold scanBound; omega) fun h' tk c R1 hcn k => ?_
    exact ⟨.ref _, _, I.laid (t' := tk) k (Nat.le_refl _) (setO_new R1), rfl, q _ c (I.hok.fresh (Nat.le_refl _)) (setR_len R1 hm)⟩
  · obtain ⟨its, rv, ⟨o, n, e1, e2, e3, e4⟩, hz⟩ := I.list hp
    refine set_of_list ns (I.ok.hd hc) (show s.heap.IsList p its.toArray from ⟨o, e1, e2, n, e4⟩) (ints_of_vals rv) (by unfold scanBound; omega) fun h' tk c R1 hcn k => ?_
    exact ⟨.ref _, _, I.laid (t' := tk) k (Nat.le_refl _) (setO_new R1), rfl, q _ c (I.hok.fresh (Nat.le_refl _)) (setR_len R1 hm)⟩
theorem boot_set' : bootBuiltins "set" = some (.type "set") := by decide +kernel
theorem boot_sorted' : bootBuiltins "sorted" = some (.builtin "sorted") := by decide +kernel
theorem dq_ints {K : PySem.W.Frag} {H : Hp} : ∀ {ds : List D} {ns : List Int} {vs : List V}, allInts (ds.map .d) = some ns → DqAll K H vs ds → vs = ns.map V.int
  | [], ns, vs, h, q => by
    cases q
    cases h
    rfl
  | d :: ds, ns, vs, h, q => by
    cases q with
    | cons q1 q2 =>
      cases d <;> first | (cases h; done) | skip
      rename_i i
      simp only [List.map_cons, allInts] at h
      obtain ⟨ms, h1, rfl⟩ := Option.map_eq_some_iff.mp h
      cases q1
      rw [List.map_cons, dq_ints h1 q2]
theorem dq_of_ints {K : PySem.W.Frag} {H : Hp} : ∀ (ns : List Int), DqAll K H (ns.map V.int) (ns.map PyData.int)
  | [] => .nil
  | n :: ns => .cons (.int n) (dq_of_ints ns)
theorem se_sset (g : G T cls ck N sc fk W X) {r : Bool} {a : E} {a' : Expr} {x y : Str} {px py q1 q2 : Pos} (hx : x = ("sorted" : Str)) (hy : y = ("set" : Str)) (gx : gloB sc x = true) (gy : gloB sc y = true) (hs : starB a' = false) (ha : SE X cls ck W a a') :
    SE X cls ck W (.sset r a) (.Call (.Name x px) [.Call (.Name y py) [a'] [] q1] [] q2) := by
  subst hx hy
  have hin := pe_callTy (X := X) (x := "set") (p := py) (pos := q1) (cr_setSeq g.calm) (glob_of gy g.hs) (g.free _ (by decide +kernel)) boot_set' (pa_cons ha.pe pa_nil (star_of hs _ _)) (by decide) (by decide) (star_of hs _ _) rfl
  refine .gen (PE.weak (pe_callB (cr_sortedSet g.calm) (glob_of gx g.hs) (g.free _ (by decide +kernel)) boot_sorted' (pa_cons hin pa_nil rfl) (by decide) (by decide) rfl rfl) fun σ H Q ⟨en, st, φ, Hf, F, re, rs, out⟩ => ?_) (fun _ => rfl) fun _ _ _ z => by cases z
  refine ⟨en, st, φ, Hf, F, re, rs, (Out.bind out).mono fun v st1 φ1 Hf1 H1 u1 rs1 o1 V1 rv1 => ?_⟩
  unfold ssetV at o1
  split at o1
  · rename_i xs
    split at o1
    · rename_i ns hns
      split at o1
      · rename_i hl
        cases rv1 with
        | tup h1 h2 =>
          have e := dq_ints hns h2
          subst e
          refine ⟨_, ns, rfl, .inl (SqT.mono h1 rs1.sub), by omega, fun q c hq hc => ?_⟩
          obtain ⟨rs2, u2⟩ := rs1.lay (o := SetO X.w q (fun j => decide (j ∈ ns)) c) hq
          refine ⟨q, _, c, rfl, upd_same, by omega, fun ms p pw hm hlen hp => ?_⟩
          have em : ms = ssetI ns := pw_ext pw (ssetI_pw ns) fun y => by rw [hm, ssetI_mem, decide_eq_true_iff]
          subst em
          have := (mkL_fin rs2 (RVs.to_dats (dq_of_ints (ssetI ns))) (r := r) (by rw [List.map_map]; exact o1.from u2)).2 p hp
          exact this
      · exact o1.elim
    · exact o1.elim
  · rename_i xs
    split at o1
    · rename_i ns hns
      split at o1
      · rename_i hl
        cases rv1 with
        | lst h1 h2 =>
          have e := dq_ints hns h2
          subst e
          refine ⟨_, ns, rfl, .inr (SqL.of (rs1.sub _ _ h1)), by omega, fun q c hq hc => ?_⟩
          obtain ⟨rs2, u2⟩ := rs1.lay (o := SetO X.w q (fun j => decide (j ∈ ns)) c) hq
          refine ⟨q, _, c, rfl, upd_same, by omega, fun ms p pw hm hlen hp => ?_⟩
          have em : ms = ssetI ns := pw_ext pw (ssetI_pw ns) fun y => by rw [hm, ssetI_mem, decide_eq_true_iff]
          subst em
          have := (mkL_fin rs2 (RVs.to_dats (dq_of_ints (ssetI ns))) (r := r) (by rw [List.map_map]; exact o1.from u2)).2 p hp
          exact this
      · exact o1.elim
    · exact o1.elim
  · exact o1.elim
/-! ### dict displays -/
abbrev KR (K : PySem.W.Frag) (φ : Nat → Addr) (n : Nat) (Hf : Hp) : List (Key × Val) → List (Key × V) → Prop := Paired fun p q => p.1 = q.1 ∧ RV K φ n Hf p.2 q.2
theorem KR.up {K : PySem.W.Frag} {φ φ' : Nat → Addr} {Hf Hf' : Hp} {n n' : Nat} {kvs : List (Key × Val)} {ks : List (Key × V)} (h : KR K φ n Hf kvs ks) (u : Up φ Hf n φ' Hf' n') : KR K φ' n' Hf' kvs ks := Paired.mapP h fun _ _ z => ⟨z.1, z.2.up u⟩
theorem mergeD_rep {K : PySem.W.Frag} {φ : Nat → Addr} {n : Nat} {Hf : Hp} : ∀ {ps : List (Key × Val)} {qs : List (Key × V)} {acc : List (Key × Val)} {acc' : List (Key × V)}, KR K φ n Hf ps qs → KR K φ n Hf acc acc' →
    KR K φ n Hf (ps.foldl (fun acc p => putK p.1 p.2 acc) acc) (L2.mergeK acc' qs)
  | [], _, acc, acc', h, ha => by
    cases h
    exact ha
  | p :: ps, _, acc, acc', h, ha => by
    cases h with
    | @cons _ q _ qs h1 h2 =>
      obtain ⟨k, v⟩ := p
      obtain ⟨k', v'⟩ := q
      obtain ⟨e, rv⟩ := h1
      cases e
      have r := mergeD_rep h2 (putK_rep k rv ha)
      exact r
theorem putK_len (k : Key) (v : Val) (kvs : List (Key × Val)) : (putK k v kvs).length ≤ kvs.length + 1 := by
  unfold putK
  split
  · rw [List.length_map]; omega
  · rw [List.length_append]; exact Nat.le_refl _
theorem foldPut_len : ∀ (ps acc : List (Key × Val)), (ps.foldl (fun acc p => putK p.1 p.2 acc) acc).length ≤ acc.length + ps.length
  | [], acc => Nat.le_refl _
  | p :: ps, acc => by
    have h1 := foldPut_len ps (putK p.1 p.2 acc)
    have h2 := putK_len p.1 p.2 acc
    rw [List.foldl_cons, List.length_cons]
    omega
theorem mergeD_len (ps : List (Key × Val)) : (mergeD ps).length ≤ ps.length := by
  have := foldPut_len ps []
  unfold mergeD
  simpa using this
theorem mergeD_snoc (ps : List (Key × Val)) (k : Key) (v : Val) : mergeD (ps ++ [(k, v)]) = putK k v (mergeD ps) := by
  unfold mergeD
  rw [List.foldl_append]
  rfl
def trsE (X : Cx) (cls : Nat → Addr) (ck : Ck) (W : WX) : List Key → Es → List (TE × TE)
  | k :: ks, .cons e es => ((fun _ H Q => Q (kV k) H), tE X cls ck W e) :: trsE X cls ck W ks es
  | _, _ => []
def noStarEs : Es → Bool
  | .nil => true
  | .cons _ es => noStarEs es
  | .star _ _ => false
theorem upd_rem {H : Hp} {D : Addr} {o : HO} : upd (rem H D) D o = upd H D o := by
  funext a
  unfold upd rem
  by_cases e : a = D
  · rw [if_pos e, if_pos e]
  · rw [if_neg e, if_neg e, if_neg e]
theorem pairs_run {σ : L2.St} {en : Slots} : ∀ (es : Es) {ks : List Key} {st st' : Sto} {vs : List Val} {φ : Nat → Addr} {Hf F H : Hp} {Q : List (V × V) → Hp → Prop}, noStarEs es = true → evEs ck es en st = .ok vs st' → vs.length = ks.length → RS X.K φ Hf F st H → RE X.K φ st.length Hf en σ →
    (∀ φ' Hf' H' ws, Up φ Hf st.length φ' Hf' st'.length → RS X.K φ' Hf' F st' H' → RVs X.K φ' st'.length Hf' vs ws → Q ((ks.zip ws).map fun kv => (kV kv.1, kv.2)) H') → tPairs (trsE X cls ck W ks es) σ H Q
  | .nil, ks, st, st', vs, φ, Hf, F, H, Q, _, h, hl, rs, re, q => by
    cases h
    cases ks with
    | nil => exact q φ Hf H [] Up.refl rs .nil
    | cons _ _ => cases hl
  | .star _ _, _, _, _, _, _, _, _, _, _, h, _, _, _, _, _ => by cases h
  | .cons e es, ks, st, st', vs, φ, Hf, F, H, Q, hn, h, hl, rs, re, q => by
    simp only [evEs] at h
    obtain ⟨v, st1, h1, h⟩ := R.bind_ok h
    obtain ⟨us, st2, h2, h⟩ := R.bind_ok h
    cases h
    cases ks with
    | nil => cases hl
    | cons k ks =>
      refine ⟨en, st, φ, Hf, F, re, rs, ?_⟩
      rw [h1]
      intro φ1 Hf1 H1 u1 rs1 V1 rv1
      refine pairs_run es hn h2 (by simpa using hl) rs1 (re.up u1) fun φ' Hf' H' ws u rs' rvs => ?_
      exact q φ' Hf' H' (V1 :: ws) (u1.trans u) rs' (.cons (rv1.up u) rvs)
theorem zip_rep {K : PySem.W.Frag} {φ : Nat → Addr} {n : Nat} {Hf : Hp} : ∀ {ks : List Key} {vs : List Val} {ws : List V}, RVs K φ n Hf vs ws → KR K φ n Hf (ks.zip vs) (ks.zip ws)
  | [], _, _, _ => .nil
  | _ :: _, [], _, h => by cases h; exact .nil
  | k :: ks, v :: vs, _, h => by
    cases h with
    | cons h1 h2 => exact .cons ⟨rfl, h1⟩ (zip_rep h2)
theorem mkD_ok {ps : List (Key × Val)} {st st' : Sto} {v : Val} (h : mkD ps st = .ok v st') : ps.length ≤ 100000 ∧ v = .ref st.length ∧ st' = st ++ [.dK (mergeD ps)] := by
  unfold mkD at h
  split at h
  · rename_i hl
    cases h
    exact ⟨hl, rfl, rfl⟩
  · cases h
theorem push_dict {φ : Nat → Addr} {Hf F H : Hp} {st : Sto} {p : Addr} {kvs : List (Key × Val)} {ks : List (Key × V)} (rs : RS X.K φ Hf F st H) (hp : H p = none) (r : KR X.K φ st.length Hf kvs ks) :
    RS X.K (ext φ st.length p) Hf F (st ++ [.dK kvs]) (upd H p (.dK ks)) ∧ Up φ Hf st.length (ext φ st.length p) Hf (st ++ [Cell.dK kvs]).length :=
  rs.push (c := .dK kvs) (o := .dK ks) hp rfl ⟨ks, rfl, KR.up r ⟨Nat.le_succ _, fun i h => ext_lt h, fun _ _ h => h⟩⟩
theorem se_dct {ks : List Key} {es : Es} {keys : List (Option Expr)} {vs : List Expr} {pos : Pos} (hp : PPs X pos keys vs (trsE X cls ck W ks es)) (hk : keysB ks keys = true) (h15 : keys.length ≤ 15) (hl : keys.length = vs.length) (hn : noStarEs es = true) :
    SE X cls ck W (.dct ks es) (.Dict keys vs pos) := by
  have hkl : ks.length = keys.length := by
    clear hp h15 hl
    induction ks generalizing keys with
    | nil =>
      cases keys with
      | nil => rfl
      | cons _ _ => cases hk
    | cons k ks ih =>
      cases keys with
      | nil => cases hk
      | cons c keys =>
        cases c with
        | none => cases hk
        | some c =>
          cases c <;> first | (cases hk; done) | skip
          unfold keysB at hk
          rw [Bool.and_eq_true] at hk
          rw [List.length_cons, List.length_cons, ih hk.2]
  have hall : ∀ {ks : List Key} {keys : List (Option Expr)}, keysB ks keys = true → keys.all (·.isSome) = true := by
    intro ks
    induction ks with
    | nil =>
      intro keys h
      cases keys with
      | nil => rfl
      | cons _ _ => cases h
    | cons k ks ih =>
      intro keys h
      cases keys with
      | nil => rfl
      | cons c keys =>
        cases c with
        | none => cases h
        | some c =>
          cases c <;> first | (cases h; done) | skip
          unfold keysB at h
          rw [Bool.and_eq_true] at h
          rw [List.all_cons, ih h.2]
          rfl
  have key : ∀ {σ : L2.St} {H : Hp} {Q : VK}, tE X cls ck W (.dct ks es) σ H Q → ∃ en st φ Hf F vs' st1, RE X.K φ st.length Hf en σ ∧ RS X.K φ Hf F st H ∧ evEs ck es en st = .ok vs' st1 ∧ vs'.length = ks.length ∧
      Out X.K F (kEx cls W σ) φ Hf st.length (.ok (.ref st1.length) (st1 ++ [.dK (mergeD (ks.zip vs'))])) (kQ X.K Q) := fun {σ H Q} ⟨en, st, φ, Hf, F, re, rs, out⟩ => by
    simp only [evE] at out
    obtain ⟨v0, st0, h0⟩ := calm_ok out
    rw [h0] at out
    obtain ⟨vs', st1, h1, h2⟩ := R.bind_ok h0
    split at h2
    · rename_i hc
      obtain ⟨_, rfl, rfl⟩ := mkD_ok h2
      exact ⟨en, st, φ, Hf, F, vs', st1, re, rs, h1, hc.1, out⟩
    · cases h2
  cases ks with
  | nil =>
    cases keys with
    | cons _ _ => cases hk
    | nil =>
      cases vs with
      | cons _ _ => cases hl
      | nil =>
        refine .gen (PE.weak pe_dnewK fun σ H Q h => ?_) (fun _ => rfl) fun _ _ _ z => by cases z
        obtain ⟨en, st, φ, Hf, F, vs', st1, re, rs, h1, hlen, out⟩ := key h
        cases es with
        | star _ _ => cases hn
        | cons e es =>
          simp only [evEs] at h1
          obtain ⟨_, _, _, h1⟩ := R.bind_ok h1
          obtain ⟨_, _, _, h1⟩ := R.bind_ok h1
          cases h1
          cases hlen
        | nil =>
          cases h1
          intro p hp
          obtain ⟨rs2, u2⟩ := push_dict (kvs := []) (ks := []) rs hp .nil
          exact out _ _ _ u2 rs2 _ ⟨by rw [List.length_append]; exact Nat.lt_succ_self _, by rw [ext_same]⟩
  | cons k ks =>
    refine .gen (PE.weak (pe_disp hp (hall hk) hl (fun z => by rw [z] at hk; cases hk) h15) fun σ H Q h => ?_) (fun _ => rfl) fun _ _ _ z => by cases z
    obtain ⟨en, st, φ, Hf, F, vs', st1, re, rs, h1, hlen, out⟩ := key h
    intro p hp
    have hFp : F p = none := by
      cases e : F p with
      | none => rfl
      | some u => rw [rs.fr p u e] at hp; cases hp
    refine pairs_run es hn h1 hlen (rs.framed hp (.dK [])) re fun φ' Hf' H' ws u rs' rvs => ⟨rs'.fr _ _ upd_same, (k :: ks).zip ws, rfl, ?_, ?_⟩
    · rw [List.length_zip]
      have : (k :: ks).length ≤ 15 := by rw [hkl]; exact h15
      omega
    · obtain ⟨rs2, u2⟩ := push_dict (rs'.unframe hFp) rem_same (mergeD_rep (acc := []) (acc' := []) (zip_rep (ks := k :: ks) rvs) .nil)
      rw [upd_rem] at rs2
      exact out _ _ _ (u.trans u2) rs2 _ ⟨by rw [List.length_append]; exact Nat.lt_succ_self _, by rw [ext_same]⟩
end
end Ev
set_option Elab.async false
set_option linter.all false
set_option maxRecDepth 100000
/-! Ev12c: dict comprehensions. -/
namespace Ev
open PySem PySem.Spec PyProof.Rows L2

section
variable {X : Cx} {cls : Nat → Addr} {ck : Ck} {W : WX} {T : Tx} {N : List Str} {sc : Scope} {fk : Str → Bool}
def dcF (ck : Ck) (x y : E) (own : List Nat) (g : Tg) (c : Eo) (en : Slots) (w : Val) (st2 : Sto) : R (List (Key × Val)) :=
  match asg g w (wipeE en own) with
  | none => .no
  | some en1 => (evC ck c en1 st2).bind fun b st3 => if b then (evE ck x en1 st3).bind fun u st4 => (evE ck y en1 st4).bind fun z st5 => match keyV u with
    | some q => .ok [(q, z)] st5
    | none => .no
  else .ok [] st3
theorem keyV_rep {K : PySem.W.Frag} {φ : Nat → Addr} {n : Nat} {Hf : Hp} {u : Val} {V : V} {k : Key} (h : keyV u = some k) (rv : RV K φ n Hf u V) : V = kV k := by
  cases u with
  | ref _ => cases h
  | d d =>
    cases d <;> first | (cases h; done) | skip
    · cases h
      cases rv
      rfl
    · cases h
      cases rv
      rfl
theorem dc_turn {x y : E} {own : List Nat} {g : Tg} {c : Eo} {en : Slots} {σ : L2.St} {v : Val} {V1 : V} {st' stA : Sto} {ys : List (Key × Val)} {φ' : Nat → Addr} {Hf' F H' : Hp} {D : Addr} {accV : List (Key × V)} {done : List (Key × Val)} {Nx : Hp → Prop}
    (hown : ∀ i ∈ tgSlots g, i ∈ own) (hf : dcF ck x y own g c en v st' = .ok ys stA) (rs : RS X.K φ' Hf' (upd F D (.dK accV)) st' H') (rv : RV X.K φ' st'.length Hf' v V1) (re : RE X.K φ' st'.length Hf' en σ) (rd : KR X.K φ' st'.length Hf' (mergeD done) accV) (hlen : done.length + ys.length ≤ 100000)
    (hNx : ∀ φ2 Hf2 H2 accV', Up φ' Hf' st'.length φ2 Hf2 stA.length → RS X.K φ2 Hf2 (upd F D (.dK accV')) stA H2 → KR X.K φ2 stA.length Hf2 (mergeD (done ++ ys)) accV' → Nx H2) :
    tG X g V1 (L2.wipe σ own) H' fun σ2 H2 => L2.wipe σ2 own = L2.wipe σ own ∧ tC X cls ck c σ2 H2 fun b H3 =>
      if b = true then tE X cls ck WNo x σ2 H3 fun u H4 => tE X cls ck WNo y σ2 H4 fun z H5 => ∃ kvs k, u = kV k ∧ H5 D = some (.dK kvs) ∧ kvs.length < sizeLine ∧ Nx (upd H5 D (.dK (L2.putK kvs k z))) else Nx H3 := by
  unfold dcF at hf
  cases ea : asg g v (wipeE en own) with
  | none => rw [ea] at hf; cases hf
  | some en1 =>
    rw [ea] at hf
    obtain ⟨b, st3, hc, hf⟩ := R.bind_ok hf
    refine ⟨wipeE en own, en1, v, st', φ', Hf', upd F D (.dK accV), re.wipe own, rs, rv, ea, fun σ2 re2 hl hj => ⟨wipe_same hl fun j hm => hj j fun z => hm (hown j z), ?_⟩⟩
    have fin : ∀ φ3 Hf3 H3, Up φ' Hf' st'.length φ3 Hf3 st3.length → RS X.K φ3 Hf3 (upd F D (.dK accV)) st3 H3 →
        if b = true then tE X cls ck WNo x σ2 H3 fun u H4 => tE X cls ck WNo y σ2 H4 fun z H5 => ∃ kvs k, u = kV k ∧ H5 D = some (.dK kvs) ∧ kvs.length < sizeLine ∧ Nx (upd H5 D (.dK (L2.putK kvs k z))) else Nx H3 := fun φ3 Hf3 H3 u3 rs3 => by
      cases b with
      | true =>
        rw [if_pos rfl] at hf
        obtain ⟨u, st4, hu, hf⟩ := R.bind_ok hf
        obtain ⟨z, st5, hz, hf⟩ := R.bind_ok hf
        split at hf
        · rename_i q hq
          cases hf
          refine ifT ⟨en1, st3, φ3, Hf3, upd F D (.dK accV), re2.up u3, rs3, ?_⟩
          rw [hu]
          intro φ4 Hf4 H4 u4 rs4 V rv4
          refine ⟨en1, st4, φ4, Hf4, upd F D (.dK accV), (re2.up u3).up u4, rs4, ?_⟩
          rw [hz]
          intro φ5 Hf5 H5 u5 rs5 Z rv5
          have rd5 := KR.up rd (u3.trans (u4.trans u5))
          refine ⟨accV, q, keyV_rep hq rv4, rs5.fr _ _ upd_same, ?_, ?_⟩
          · have h1 := rd.length
            have h2 := mergeD_len done
            have h3 : 100000 < sizeLine := by decide
            omega
          · refine hNx φ5 Hf5 _ _ (u3.trans (u4.trans u5)) (rs5.reframe _) ?_
            rw [mergeD_snoc]
            exact putK_rep q rv5 rd5
        · cases hf
      | false =>
        rw [if_neg (by decide)] at hf
        cases hf
        refine ifF ?_
        exact hNx φ3 Hf3 H3 accV u3 rs3 (by rw [List.append_nil]; exact KR.up rd u3)
    cases c with
    | none =>
      cases hc
      exact fin φ' Hf' H' Up.refl rs
    | some a =>
      simp only [evC] at hc
      obtain ⟨w, st5, hw, hc⟩ := R.bind_ok hc
      obtain ⟨hb, e5⟩ := R.ofO_ok hc
      subst e5
      refine ⟨en1, st', φ', Hf', upd F D (.dK accV), re2, rs, ?_⟩
      rw [hw]
      intro φ3 Hf3 H3 u3 rs3
      exact ⟨b, hb, fin φ3 Hf3 H3 u3 rs3⟩
theorem se_dc (gX : G T cls ck N sc fk W X) {x y : E} {own : List Nat} {g : Tg} {it : I} {c : Eo} {x' y' tg it' : Expr} {cs : List Expr} {scope : Scope} {pos : Pos}
    (hok : blkC N sc scope (ownP N own) = true) (hown : ∀ i ∈ tgSlots g, i ∈ own) (hi : PI X tg it' (tI X cls ck W it)) (hset : setB it' = false)
    (hg : ∀ (s : Shared) (H : Hp) (C : Addr) (cl : List (Str × Addr)) (fp : List Addr), PG (X.blk s H scope (compEnvC scope cl C X.env) fp) tg (tG X g))
    (ht : ∀ (s : Shared) (H : Hp) (C : Addr) (cl : List (Str × Addr)) (fp : List Addr), PTs (X.blk s H scope (compEnvC scope cl C X.env) fp) cs (tC X cls ck c))
    (hk : ∀ (s : Shared) (H : Hp) (C : Addr) (cl : List (Str × Addr)) (fp : List Addr), PE (X.blk s H scope (compEnvC scope cl C X.env) fp) x' (tE X cls ck WNo x))
    (he : ∀ (s : Shared) (H : Hp) (C : Addr) (cl : List (Str × Addr)) (fp : List Addr), PE (X.blk s H scope (compEnvC scope cl C X.env) fp) y' (tE X cls ck WNo y)) :
    SE X cls ck W (.dc x y own g it c) (.DictComp x' y' [⟨tg, it', cs, 0⟩] scope pos) ∧
      ∀ σ H Q, tE X cls ck W (.dc x y own g it c) σ H Q → tDc (tI X cls ck W it) (tG X g) (tC X cls ck c) (tE X cls ck WNo x) (tE X cls ck WNo y) ((ownP N own).map (·.2)) σ H Q := by
  have eown : (ownP N own).map (·.2) = own := by
    unfold ownP
    rw [List.map_map]
    exact List.map_id' own
  have key : ∀ σ H Q, tE X cls ck W (.dc x y own g it c) σ H Q → tDc (tI X cls ck W it) (tG X g) (tC X cls ck c) (tE X cls ck WNo x) (tE X cls ck WNo y) ((ownP N own).map (·.2)) σ H Q := by
    rw [eown]
    intro σ H Q ⟨en, st, φ, Hf, F, re, rs, out⟩
    refine ⟨en, st, φ, Hf, F, re, rs, (Out.bind out).mono fun s st1 φ1 Hf1 H1 u1 rs1 o1 hlive J hJ D hD => ?_⟩
    have o1 : Out X.K F (kEx cls W σ) φ1 Hf1 st1.length ((mapSrc (dcF ck x y own g c en) s st1).bind mkD).calm (kQ X.K Q) := o1
    obtain ⟨v0, st0, h0⟩ := calm_ok o1
    obtain ⟨all, st2, hall, hmk⟩ := R.bind_ok h0
    rw [h0] at o1
    obtain ⟨hlen, rfl, rfl⟩ := mkD_ok hmk
    have hFD : F D = none := by
      cases e : F D with
      | none => rfl
      | some u => rw [rs1.fr D u e] at hD; cases hD
    have fin : ∀ φ' Hf' accV H', Up φ1 Hf1 st1.length φ' Hf' st2.length → RS X.K φ' Hf' (upd F D (.dK accV)) st2 H' → KR X.K φ' st2.length Hf' (mergeD all) accV → Q (.ref D) H' := fun φ' Hf' accV H' u rs' rv => by
      obtain ⟨rs2, u2⟩ := push_dict (rs'.unframe hFD) rem_same rv
      rw [rem_upd (rs'.fr _ _ upd_same)] at rs2
      exact o1 _ _ _ (u.trans u2) rs2 _ ⟨by rw [List.length_append]; exact Nat.lt_succ_self _, by rw [ext_same]⟩
    cases s with
    | stat zs =>
      have hJ : Walks X.K J Hf1 zs := hJ
      refine ⟨fun i m H => m = zs.length - i ∧ i ≤ zs.length ∧ ∃ done ys st' φ' Hf' accV, Up φ1 Hf1 st1.length φ' Hf' st'.length ∧ RS X.K φ' Hf' (upd F D (.dK accV)) st' H ∧ KR X.K φ' st'.length Hf' (mergeD done) accV ∧ mapS (dcF ck x y own g c en) (zs.drop i) st' = .ok ys st2 ∧ done ++ ys = all,
        ⟨_, rfl, Nat.zero_le _, [], all, st1, φ1, Hf1, [], Up.refl, rs1.framed hD _, .nil, hall, rfl⟩, fun i m H hW => ?_⟩
      obtain ⟨rfl, hi, done, ys, st', φ', Hf', accV, u, rs', rd, hm, hdone⟩ := hW
      have hB : ∀ a o, Hf1 a = some o → H a = some o := fun a o z => rs'.sub _ _ (u.up _ _ z)
      by_cases hlt : i < zs.length
      · refine .inr ⟨hJ.go i H hB hlt, fun H => (i + 1) ≤ zs.length ∧ ∃ done ys st' φ' Hf' accV, Up φ1 Hf1 st1.length φ' Hf' st'.length ∧ RS X.K φ' Hf' (upd F D (.dK accV)) st' H ∧ KR X.K φ' st'.length Hf' (mergeD done) accV ∧ mapS (dcF ck x y own g c en) (zs.drop (i + 1)) st' = .ok ys st2 ∧ done ++ ys = all, fun H' hN => ⟨zs.length - (i + 1), by omega, rfl, hN⟩, fun V1 H' hy => ?_⟩
        have hd : zs[i]? = some zs[i] := List.getElem?_eq_getElem hlt
        obtain ⟨Hf2, rs2, u2, q2⟩ := walk_step hJ (fun a o z => u.up _ _ z) rs' hd hy
        rw [List.drop_eq_getElem_cons hlt] at hm
        obtain ⟨ys1, stA, h1, hm⟩ := R.bind_ok (show (dcF ck x y own g c en (.d zs[i]) st').bind _ = .ok ys st2 from hm)
        obtain ⟨ys2, stB, h2, hm⟩ := R.bind_ok hm
        cases hm
        refine dc_turn hown h1 rs2 q2 (re.up (u1.trans (u.trans u2))) (KR.up rd u2) ?_ fun φ3 Hf3 H3 accV' u3 rs3 rd3 => ?_
        · rw [← hdone, List.length_append, List.length_append] at hlen
          omega
        · exact ⟨hlt, done ++ ys1, ys2, stA, φ3, Hf3, accV', u.trans (u2.trans u3), rs3, rd3, h2, by rw [List.append_assoc]; exact hdone⟩
      · have ei : i = zs.length := by omega
        subst ei
        rw [List.drop_length] at hm
        cases hm
        rw [List.append_nil] at hdone
        subst hdone
        exact .inl ⟨hJ.stop H hB, fin φ' Hf' accV H u rs' rd⟩
    | live i =>
      have hJ : J = Itl X.K (φ1 i) := hJ
      subst hJ
      obtain ⟨hil, _⟩ := hlive i rfl
      refine ⟨fun k m H => ∃ done ys st' φ' Hf' accV, Up φ1 Hf1 st1.length φ' Hf' st'.length ∧ RS X.K φ' Hf' (upd F D (.dK accV)) st' H ∧ KR X.K φ' st'.length Hf' (mergeD done) accV ∧ mapLive (dcF ck x y own g c en) i m k st' = .ok ys st2 ∧ done ++ ys = all,
        ⟨_, [], all, st1, φ1, Hf1, [], Up.refl, rs1.framed hD _, .nil, hall, rfl⟩, fun k m H hW => ?_⟩
      obtain ⟨done, ys, st', φ', Hf', accV, u, rs', rd, hm, hdone⟩ := hW
      cases m with
      | zero => cases hm
      | succ m =>
        simp only [mapLive] at hm
        split at hm
        · rename_i xs hx
          obtain ⟨vs, hv, rv⟩ := live_at rs' hx
          rw [u.eq i hil] at hv
          split at hm
          · rename_i hn
            cases hm
            rw [List.append_nil] at hdone
            subst hdone
            refine .inl ⟨⟨vs, hv, ?_⟩, fin φ' Hf' accV H u rs' rd⟩
            rw [← rv.length]
            exact List.getElem?_eq_none_iff.mp hn
          · rename_i y1 hy1
            obtain ⟨V2, h3, h4⟩ := at_pair rv hy1
            refine .inr ⟨⟨vs, V2, hv, h3⟩, fun H => ∃ done ys st' φ' Hf' accV, Up φ1 Hf1 st1.length φ' Hf' st'.length ∧ RS X.K φ' Hf' (upd F D (.dK accV)) st' H ∧ KR X.K φ' st'.length Hf' (mergeD done) accV ∧ mapLive (dcF ck x y own g c en) i m (k + 1) st' = .ok ys st2 ∧ done ++ ys = all, fun H' hN => ⟨m, Nat.lt_succ_self _, hN⟩, fun V1 H' hyy => ?_⟩
            obtain ⟨rfl, hz⟩ := hyy
            have := hz vs hv
            rw [h3] at this
            cases this
            obtain ⟨ys1, stA, h1, hm⟩ := R.bind_ok hm
            obtain ⟨ys2, stB, h2, hm⟩ := R.bind_ok hm
            cases hm
            refine dc_turn hown h1 rs' h4 (re.up (u1.trans u)) rd ?_ fun φ3 Hf3 H3 accV' u3 rs3 rd3 => ?_
            · rw [← hdone, List.length_append, List.length_append] at hlen
              omega
            · exact ⟨done ++ ys1, ys2, stA, φ3, Hf3, accV', u.trans u3, rs3, rd3, h2, by rw [List.append_assoc]; exact hdone⟩
        · cases hm
  refine ⟨.gen (PE.weak (pe_dc gX.calm (by rw [gX.hN]; exact gX.nd) hi (by rw [gX.hN, gX.hs]; exact blkOk_by hok) hg ht hk he (foldS hset _)) key) (fun _ => rfl) (fun _ _ _ z => by cases z), key⟩
theorem ps_setDc {i : Nat} {y : Str} {py : Pos} {kx vx tg iter : Expr} {ifs : List Expr} {scope : Scope} {own : List (Str × Nat)} {pos spos : Pos} {wi : TI} {g : TG} {tt : TT} {tk tv : TE} (hc : X.calm = true) (hN : X.N.Nodup) (hy : X.N[i]? = some y) (hyl : X.env.scope.names.lookup y = some .local)
    (hsw : swapsWith (.DictComp kx vx [⟨tg, iter, ifs, 0⟩] scope pos) (some (.Name y py)) spos.line X.env = pure true) (hi : PI X tg iter wi) (ok : BlkOk X.N X.env.scope scope own)
    (hg : ∀ (s : Shared) (H : Hp) (C : Addr) (cl : List (Str × Addr)) (fp : List Addr), PG (X.blk s H scope (compEnvC scope cl C X.env) fp) tg g) (ht : ∀ (s : Shared) (H : Hp) (C : Addr) (cl : List (Str × Addr)) (fp : List Addr), PTs (X.blk s H scope (compEnvC scope cl C X.env) fp) ifs tt)
    (hk : ∀ (s : Shared) (H : Hp) (C : Addr) (cl : List (Str × Addr)) (fp : List Addr), PE (X.blk s H scope (compEnvC scope cl C X.env) fp) kx tk)
    (he : ∀ (s : Shared) (H : Hp) (C : Addr) (cl : List (Str × Addr)) (fp : List Addr), PE (X.blk s H scope (compEnvC scope cl C X.env) fp) vx tv) (hs : ∀ x, foldedSetIterable iter X.env x = pure x) :
    PS X (.Assign [.Name y py] (.DictComp kx vx [⟨tg, iter, ifs, 0⟩] scope pos) spos) (tAsg (tDc wi g tt tk tv (own.map (·.2))) (gName i)) := by
  refine ⟨fun pins s σ H D I h => ?_⟩
  rw [exec_Assign_Name_used _ _ _ _ hsw]
  refine wpAny_bind (wpAny_standAt (wpAny_bind ?_))
  show wpAny _ X.A (do let _ ← comprehension (.DictComp kx vx [⟨tg, iter, ifs, 0⟩] scope pos) scope X.env (firstIterPos [⟨tg, iter, ifs, 0⟩] pos) newDict false (eval iter X.env) (some (assign (.Name y py) X.env))) _ _ s
  refine wpAny_bind (thn (dc_core (Qf := fun _ s' => SP X pins D .next s') hc hN I hi ok hg ht hk he hs (show tDc wi g tt tk tv (own.map (·.2)) σ H (fun x H1 => gName i x σ H1 D.nx) from h) fun L C s' m H' I' q hn f => ?_) fun _ s' hq => wpAny_pure (wpAny_pure hq))
  refine wpAny_assign_Name (store_ok2 (v := V.ref L) I' hN hy (.inl hyl) rfl (fun s2 I2 ⟨a, sb, ha⟩ => ?_) (.inr hyl))
  obtain ⟨f0, f1, f2, f3, f4, f5⟩ := f
  have haC : C ≠ a := by
    rcases ha with z | z
    · exact fun e => f1 (e.trans z)
    · exact fun e => f4 y a z e.symm
  refine ⟨m, hn.sameBut sb haC, fun h3 sb3 => ⟨_, H', I2.turned (t' := s2.toks) (fun b o hb e => (sb3.2 b hb).trans e) f0 f1 f3 f4 f5, q⟩⟩
end
end Ev
set_option Elab.async false
set_option linter.all false
set_option maxRecDepth 100000
/-! Ev13: list(range(..)); argument lists; all expressions. -/
namespace Ev
open PySem PySem.Spec PyProof.Rows L2

section
variable {X : Cx} {cls : Nat → Addr} {ck : Ck} {W : WX} {T : Tx} {N : List Str} {sc : Scope} {fk : Str → Bool}
theorem cr_range1 : CallR X (.type "range") (fun vs H Q => ∃ j, vs = [V.int j] ∧ ∀ p, H p = none → Q (.ref p) (upd H p (.rng 0 j))) := by
  intro pins s σ H vs us Q I r h
  obtain ⟨j, rfl, q⟩ := h
  obtain ⟨u1, rfl, rj⟩ := vals1 r
  obtain ⟨t, rfl⟩ := rj
  refine call_range_1 ⟨.ref s.heap.objs.size, upd H s.heap.objs.size (.rng 0 j), I.laid (t' := s.toks + 1 + 1) (fun b o e => Heap.get?_push_of_some _ e) (Nat.le_refl _) ?_, rfl, q _ (I.hok.fresh (Nat.le_refl _))⟩
  exact ⟨s.toks, t, s.toks + 1, Heap.get?_push_size _ rfl⟩
theorem vals_range {lo : Int} : ∀ (n i : Nat) (l : List Value), l.length = n → (∀ (j : Nat) v, l[j]? = some v → ∃ t, v = .int (lo + ((i + j : Nat) : Int) * 1) t) → Vals ((rangeI (lo + i) n).map (fun d => match d with | .int k => V.int k | _ => V.non)) l
  | 0, i, l, hl, _ => by
    cases l with
    | nil => exact .nil
    | cons _ _ => simp at hl
  | n + 1, i, l, hl, h => by
    cases l with
    | nil => simp at hl
    | cons v l =>
      refine .cons ?_ ?_
      · obtain ⟨t, e⟩ := h 0 v rfl
        refine ⟨t, ?_⟩
        rw [e]
        congr 1
        omega
      · have ih := vals_range (lo := lo) n (i + 1) l (by simpa using hl) fun j w hw => by
          obtain ⟨t, e⟩ := h (j + 1) w (by simpa using hw)
          refine ⟨t, ?_⟩
          rw [e]
          congr 2
          omega
        have e : lo + ((i + 1 : Nat) : Int) = lo + i + 1 := by omega
        rw [e] at ih
        exact ih
theorem dq_range {B : Hp} {K : PySem.W.Frag} : ∀ (n : Nat) (lo : Int), DqAll K B ((rangeI lo n).map (fun d => match d with | .int k => V.int k | _ => V.non)) (rangeI lo n)
  | 0, _ => .nil
  | n + 1, lo => .cons (.int _) (dq_range n (lo + 1))
theorem cr_listR (hc : X.calm = true) : CallR X (.type "list") (fun vs H Q => ∃ p lo hi, vs = [V.ref p] ∧ H p = some (.rng lo hi) ∧ (-16777216 < lo ∧ lo < 16777216 ∧ -16777216 < hi ∧ hi < 16777216) ∧ (hi - lo).toNat ≤ 2 ^ 24 ∧
    ∀ l, H l = none → Q (.ref l) (upd H l (.lst ((rangeI lo (hi - lo).toNat).map (fun d => match d with | .int k => V.int k | _ => V.non))))) := by
  intro pins s σ H vs us Q I r h
  obtain ⟨p, lo, hi, rfl, hp, hb, hn, q⟩ := h
  obtain ⟨u1, rfl, rj⟩ := vals1 r
  cases rj
  obtain ⟨t, u, v, e⟩ := I.hok p _ hp
  have hr : IsRange s.heap p lo hi 1 t u v := e
  have hsz : Builtin.Range.rangeSize lo hi 1 = ((hi - lo).toNat : Nat) := by rw [rangeSize_one]; split <;> omega
  refine call_list_range (I.ok.hd hc) hr (small_one (by omega) (by omega) (by omega) (by omega)) hsz hn fun h' tk acc' c' hk hg hi' => ?_
  obtain ⟨h1, h2⟩ := hi'
  have hv := vals_range (lo := lo) (hi - lo).toNat 0 acc'.toList (by simpa using h1) fun j w hw => by
    obtain ⟨t, e⟩ := h2 j w (by simpa using hw)
    exact ⟨t, by rw [e, Nat.zero_add]⟩
  have e0 : lo + ((0 : Nat) : Int) = lo := by omega
  rw [e0] at hv
  refine ⟨.ref s.heap.objs.size, _, I.laid (t' := tk) (o := .lst ((rangeI lo (hi - lo).toNat).map (fun d => match d with | .int k => V.int k | _ => V.non))) hk (Nat.le_refl _) ?_, rfl, q _ (I.hok.fresh (Nat.le_refl _))⟩
  refine ⟨?_, acc'.toList, c', hv, by rw [Array.toArray_toList]; exact hg⟩
  rw [List.length_map, rangeI_len]
  exact hn
theorem boot_list' : bootBuiltins "list" = some (.type "list") := by decide +kernel
theorem boot_range' : bootBuiltins "range" = some (.type "range") := by decide +kernel
theorem lrng_fin {φ1 : Nat → Addr} {Hf1 F H1 : Hp} {st1 : Sto} {Wx : XW} {r : Bool} {lo hi : Int} {Q : VK} {p : Addr} (rs1 : RS X.K φ1 Hf1 F st1 H1) (hp : H1 p = none) (o : Out X.K F Wx φ1 Hf1 st1.length (mkL r ((rangeI lo (hi - lo).toNat).map Val.d) st1) (kQ X.K Q)) :
    ∀ l, (upd H1 p (.rng lo hi)) l = none → Q (.ref l) (upd (upd H1 p (.rng lo hi)) l (.lst ((rangeI lo (hi - lo).toNat).map (fun d => match d with | .int k => V.int k | _ => V.non)))) := by
  obtain ⟨rs2, u2⟩ := rs1.lay (o := .rng lo hi) hp
  exact (mkL_fin rs2 (RVs.to_dats (dq_range _ _)) (o.from u2)).2
theorem se_lrng (g : G T cls ck N sc fk W X) {r : Bool} {it : I} {e : Expr} (ih : ∀ (a : E) (e : Expr), (it = .rng1 a ∨ (∃ b, it = .rng2 a b) ∨ ∃ b, it = .rng2 b a) → chkE T N sc fk a e = true → SE X cls ck W a e) (h : chkE T N sc fk (.lrng r it) e = true) : SE X cls ck W (.lrng r it) e := by
  simp only [chkE] at h
  split at h
  · rename_i x px f a k q pos
    rw [Bool.and_eq_true, Bool.and_eq_true, Bool.and_eq_true, decide_eq_true_eq] at h
    obtain ⟨⟨⟨rfl, hg⟩, hr⟩, hi⟩ := h
    have gl : Gl X "list" := glob_of hg g.hs
    have ml : X.mg "list" = none := g.free _ (by decide +kernel)
    have mr : X.mg "range" = none := g.free _ (by decide +kernel)
    cases it with
    | rng1 a1 =>
      simp only [chkI] at hi
      split at hi
      · rename_i y py a' q' ee
        cases ee
        rw [Bool.and_eq_true, Bool.and_eq_true, Bool.and_eq_true, decide_eq_true_eq, Bool.not_eq_true'] at hi
        obtain ⟨⟨⟨rfl, hg2⟩, hs⟩, hc⟩ := hi
        have ha := ih a1 a' (.inl rfl) hc
        have hin : PE X (.Call (.Name "range" py) [a'] [] q) _ := pe_callTy cr_range1 (glob_of hg2 g.hs) mr boot_range' (pa_cons ha.pe pa_nil (star_of hs _ _)) (by decide) (by decide) (star_of hs _ _) rfl
        refine .gen (PE.weak (pe_callTy (cr_listR g.calm) gl ml boot_list' (pa_cons hin pa_nil rfl) (by decide) (by decide) rfl rfl) fun σ H Q ⟨en, st, φ, Hf, F, re, rs, out⟩ => ?_) (fun _ => rfl) fun _ _ _ z => by cases z
        refine ⟨en, st, φ, Hf, F, re, rs, (Out.bind (Out.bind out)).mono fun v st1 φ1 Hf1 H1 u1 rs1 o1 V1 rv1 => ?_⟩
        cases v with
        | d d =>
          cases d with
          | int i =>
            cases rv1
            simp only [intV, Option.bind_some] at o1
            split at o1
            · rename_i hi
              refine ⟨i, rfl, fun p hp => ⟨p, 0, i, rfl, upd_same, ⟨by omega, by omega, hi.1, hi.2⟩, ?_, ?_⟩⟩
              · show (i - 0).toNat ≤ 16777216
                omega
              · have o2 : Out X.K F (kEx cls W σ) φ1 Hf1 st1.length (mkL r ((rangeI 0 i.toNat).map Val.d) st1) (kQ X.K Q) := o1.here rs1
                rw [show i.toNat = (i - 0).toNat by rw [Int.sub_zero]] at o2
                exact lrng_fin rs1 hp o2
            · exact o1.elim
          | _ => exact o1.elim
        | ref _ => exact o1.elim
      · cases hi
    | rng2 a1 b1 =>
      simp only [chkI] at hi
      split at hi
      · rename_i y py a' b' q' ee
        cases ee
        rw [Bool.and_eq_true, Bool.and_eq_true, Bool.and_eq_true, Bool.and_eq_true, Bool.and_eq_true, decide_eq_true_eq, Bool.not_eq_true', Bool.not_eq_true'] at hi
        obtain ⟨⟨⟨⟨⟨rfl, hg2⟩, hs⟩, hs2⟩, hc⟩, hc2⟩ := hi
        have ha := ih a1 a' (.inr (.inl ⟨b1, rfl⟩)) hc
        have hb := ih b1 b' (.inr (.inr ⟨a1, rfl⟩)) hc2
        have hin : PE X (.Call (.Name "range" py) [a', b'] [] q) _ := pe_callTy cr_range2 (glob_of hg2 g.hs) mr boot_range' (pa_cons ha.pe (pa_cons hb.pe pa_nil (star_of hs2 _ _)) (star_of hs _ _)) (by decide) (by decide) (star_of hs _ _) (noStars_any (by unfold noStars; rw [hs2]; rfl))
        refine .gen (PE.weak (pe_callTy (cr_listR g.calm) gl ml boot_list' (pa_cons hin pa_nil rfl) (by decide) (by decide) rfl rfl) fun σ H Q ⟨en, st, φ, Hf, F, re, rs, out⟩ => ?_) (fun _ => rfl) fun _ _ _ z => by cases z
        refine ⟨en, st, φ, Hf, F, re, rs, (Out.bind (Out.bind out)).mono fun v st1 φ1 Hf1 H1 u1 rs1 o1 V1 rv1 => ?_⟩
        refine ⟨en, st1, φ1, Hf1, F, re.up u1, rs1, (Out.bind o1).mono fun y st2 φ2 Hf2 H2 u2 rs2 o2 V2 rv2 => ?_⟩
        have rv1' := rv1.up u2
        split at o2
        · rename_i i j h1 h2
          split at o2
          · rename_i hi
            have ev : v = .d (.int i) := by
              unfold intV at h1
              split at h1
              · cases h1; rfl
              · cases h1
            have ey : y = .d (.int j) := by
              unfold intV at h2
              split at h2
              · cases h2; rfl
              · cases h2
            subst ev ey
            cases rv1'
            cases rv2
            have o3 : Out X.K F (kEx cls W σ) φ2 Hf2 st2.length (mkL r ((rangeI i (j - i).toNat).map Val.d) st2) (kQ X.K Q) := o2.here rs2
            refine ⟨i, j, rfl, fun p hp => ⟨p, i, j, rfl, upd_same, hi, ?_, lrng_fin rs2 hp o3⟩⟩
            have hl : ((rangeI i (j - i).toNat).map Val.d).length ≤ sizeLine := mkL_ok (r := r) (st := st2) fun z => by rw [z] at o3; exact o3
            rw [List.length_map, rangeI_len] at hl
            exact hl
          · exact o2.elim
        · exact o2.elim
      · cases hi
    | ex _ => cases hr
    | enm _ => cases hr
    | zip _ _ _ => cases hr
  · cases h
theorem pa_cons' {a : E} {es : Es} {e : Expr} {l : List Expr} (hs : starB e = false) (ha : SE X cls ck W a e) (h : PA X l (tEs X cls ck W es)) : PA X (e :: l) (tEs X cls ck W (.cons a es)) :=
  PA.weak (pa_cons ha.pe h (star_of hs _ _)) fun σ H Q ⟨en, st, φ, Hf, F, re, rs, out⟩ => by
    refine ⟨en, st, φ, Hf, F, re, rs, (Out.bind out).mono fun v st1 φ1 Hf1 H1 u1 rs1 o1 V1 rv1 => ?_⟩
    refine ⟨en, st1, φ1, Hf1, F, re.up u1, rs1, (Out.bind o1).mono fun vs st2 φ2 Hf2 H2 u2 rs2 o2 ws rvs => ?_⟩
    exact o2.here rs2 _ (.cons (rv1.up u2) rvs)
theorem pa_star' {a : E} {es : Es} {e : Expr} {p : Pos} {l : List Expr} (ha : SE X cls ck W a e) (h : PA X l (tEs X cls ck W es)) : PA X (.Starred e p :: l) (tEs X cls ck W (.star a es)) :=
  PA.weak (StX.pa_star ha.pe h rfl) fun σ H Q ⟨en, st, φ, Hf, F, re, rs, out⟩ => by
    refine ⟨en, st, φ, Hf, F, re, rs, (Out.bind out).mono fun v st1 φ1 Hf1 H1 u1 rs1 o1 V1 rv1 => ?_⟩
    split at o1
    · rename_i xs hx
      obtain ⟨p, ws, rfl, hp, rw'⟩ := seqOf_rep rs1 hx rv1
      refine ⟨p, ws, rfl, hp.symm.imp (fun z => z) .of, en, st1, φ1, Hf1, F, re.up u1, rs1, (Out.bind o1).mono fun vs st2 φ2 Hf2 H2 u2 rs2 o2 us rvs => ?_⟩
      exact o2.here rs2 _ (pairApp (RVs.up rw' u2) rvs)
    · exact o1.elim
theorem pa_nil' : PA X [] (tEs X cls ck W .nil) := PA.weak pa_nil fun σ H Q ⟨en, st, φ, Hf, F, re, rs, out⟩ => out.here rs _ .nil
/-- the context of a comprehension's block -/
theorem G.blk (g : G T cls ck N sc fk W X) {own : List (Str × Nat)} {scope : Scope} (hok : blkC N sc scope own = true) (s : Shared) (H : Hp) (C : Addr) (cl : List (Str × Addr)) (fp : List Addr) :
    G T cls ck N (relS scope sc) (blkFk scope) WNo (X.blk s H scope (compEnvC scope cl C X.env) fp) where
  hN := g.hN
  nd := g.nd
  hs := by
    show relabel scope X.env = _
    rw [← g.hs]
    rfl
  kd := by
    have := (blkOk_by hok).kind
    exact this
  hf := rfl
  calm := g.calm
  gd := g.gd
  un := g.un
  free := g.free
  glo := g.glo
  fns := g.fns
  pas := fun σ pins H s e s' I c => by
    obtain ⟨_, _, _, _, _, _, _, _, _, _, _, _, z⟩ := c
    exact z.elim
theorem pe_key {k : Key} {c : Const} {j : Nat} {p : Pos} (h : conB (keyD k) c = true) : PE X (.Constant c j p) (fun _ H Q => Q (kV k) H) := by
  cases k with
  | inl i =>
    cases c <;> first | (cases h; done) | skip
    have := of_decide_eq_true (show decide (i = _) = true from h)
    subst this
    exact pe_int
  | inr x =>
    cases c <;> first | (cases h; done) | skip
    have := of_decide_eq_true (show decide (x = _) = true from h)
    subst this
    exact pe_str
end
mutual
theorem sE {T : Tx} {cls : Nat → Addr} {ck : Ck} : ∀ (x : E) {X : Cx} {N : List Str} {sc : Scope} {fk : Str → Bool} {W : WX}, G T cls ck N sc fk W X → ∀ e, chkE T N sc fk x e = true → SE X cls ck W x e
  | .con c, _, _, _, _, _, _, e, h => se_con c h
  | .loc i, _, _, _, _, _, g, e, h => se_loc g i h
  | .glo i, _, _, _, _, _, g, e, h => se_glo g i h
  | .tup es, _, _, _, _, _, g, e, h => by
    simp only [chkE] at h
    split at h
    · exact se_tup (sEs es g _ h)
    · cases h
  | .lst r es, _, _, _, _, _, g, e, h => by
    simp only [chkE] at h
    split at h
    · exact se_lst (sEs es g _ h)
    · cases h
  | .bin r o a b, _, _, _, _, _, g, e, h => by
    simp only [chkE] at h
    split at h
    · rw [Bool.and_eq_true, Bool.and_eq_true, decide_eq_true_eq] at h
      obtain ⟨⟨rfl, h1⟩, h2⟩ := h
      exact se_bin (sE a g _ h1) (sE b g _ h2)
    · cases h
  | .neg a, _, _, _, _, _, g, e, h => by
    simp only [chkE] at h
    split at h
    · exact se_neg (sE a g _ h)
    · cases h
  | .not a, _, _, _, _, _, g, e, h => by
    simp only [chkE] at h
    split at h
    · rw [Bool.and_eq_true, Bool.not_eq_true'] at h
      exact se_not (sE a g _ h.1) h.2
    · cases h
  | .cmp o a b, _, _, _, _, _, g, e, h => by
    simp only [chkE] at h
    split at h
    · rw [Bool.and_eq_true, Bool.and_eq_true, Bool.and_eq_true, decide_eq_true_eq, Bool.not_eq_true'] at h
      obtain ⟨⟨⟨rfl, h1⟩, h2⟩, h3⟩ := h
      exact se_cmp g.un (sE a g _ h1) (sE b g _ h2) h3
    · cases h
  | .cmp2 o p a b c, _, _, _, _, _, g, e, h => by
    simp only [chkE] at h
    split at h
    · rw [Bool.and_eq_true, Bool.and_eq_true, Bool.and_eq_true, Bool.and_eq_true, Bool.and_eq_true, decide_eq_true_eq, decide_eq_true_eq, Bool.not_eq_true'] at h
      obtain ⟨⟨⟨⟨⟨rfl, rfl⟩, h1⟩, h2⟩, h3⟩, h4⟩ := h
      exact se_cmp2 g.un (sE a g _ h1) (sE b g _ h2) (sE c g _ h3) h4
    · cases h
  | .and a b, _, _, _, _, _, g, e, h => by
    simp only [chkE] at h
    split at h
    · rename_i x y r p
      rw [Bool.and_eq_true, Bool.and_eq_true, Bool.not_eq_true'] at h
      obtain ⟨⟨h1, h2⟩, h3⟩ := h
      cases r with
      | nil =>
        have h3 : (chkE _ _ _ _ b y && !ifB y) = true := h3
        rw [Bool.and_eq_true, Bool.not_eq_true'] at h3
        have hb := sE b g _ h3.1
        exact se_and (sE a g _ h1) h2 (pe_one hb.pe) (pw_and1 (hb.pt h3.2))
      | cons z r =>
        have hb := sE b g _ h3
        exact se_and (sE a g _ h1) h2 hb.pe (hb.pw _ _ _ rfl)
    · cases h
  | .or a b, _, _, _, _, _, g, e, h => by
    simp only [chkE] at h
    split at h
    · rename_i x y r p
      rw [Bool.and_eq_true, Bool.and_eq_true, Bool.not_eq_true'] at h
      obtain ⟨⟨h1, h2⟩, h3⟩ := h
      cases r with
      | nil =>
        have h3 : (chkE _ _ _ _ b y && !ifB y) = true := h3
        rw [Bool.and_eq_true, Bool.not_eq_true'] at h3
        have hb := sE b g _ h3.1
        exact se_or (sE a g _ h1) h2 (pe_one hb.pe) (pw_or1 (hb.pt h3.2))
      | cons z r =>
        have hb := sE b g _ h3
        exact se_or (sE a g _ h1) h2 hb.pe (hb.pw _ _ _ rfl)
    · cases h
  | .ite c a b, _, _, _, _, _, g, e, h => by
    simp only [chkE] at h
    split at h
    · rw [Bool.and_eq_true, Bool.and_eq_true, Bool.and_eq_true, Bool.not_eq_true'] at h
      obtain ⟨⟨⟨h1, h2⟩, h3⟩, h4⟩ := h
      exact se_ite (sE c g _ h1) h2 (sE a g _ h3) (sE b g _ h4)
    · cases h
  | .isN a, _, _, _, _, _, g, e, h => by
    simp only [chkE] at h
    split at h
    · exact se_isN (sE a g _ h)
    · cases h
  | .isNN a, _, _, _, _, _, g, e, h => by
    simp only [chkE] at h
    split at h
    · exact se_isNN (sE a g _ h)
    · cases h
  | .call f es, _, _, _, _, _, g, e, h => by
    simp only [chkE] at h
    split at h
    · rename_i x px l pos
      rw [Bool.and_eq_true, Bool.and_eq_true, Bool.and_eq_true, Bool.and_eq_true, decide_eq_true_eq] at h
      obtain ⟨⟨⟨⟨h1, h2⟩, h3⟩, h4⟩, h5⟩ := h
      exact se_call g h1 h2 h3 h4 (sEs es g _ h5) fun z => by
        subst z
        cases es <;> first | rfl | (simp [chkEs] at h5)
    · cases h
  | .bi r b es, _, _, _, _, _, g, e, h => by
    simp only [chkE] at h
    split at h
    · rw [Bool.and_eq_true, Bool.and_eq_true, Bool.and_eq_true, Bool.and_eq_true, decide_eq_true_eq] at h
      obtain ⟨⟨⟨⟨h1, h2⟩, h3⟩, h4⟩, h5⟩ := h
      exact se_bi g h1 h2 h3 h4 (sEs es g _ h5)
    · cases h
  | .mt r m o es, _, _, _, _, _, g, e, h => by
    simp only [chkE] at h
    split at h
    · rename_i o' x ap l cp
      rw [Bool.and_eq_true, Bool.and_eq_true, Bool.and_eq_true, Bool.and_eq_true, Bool.and_eq_true, Bool.and_eq_true, decide_eq_true_eq, Bool.not_eq_true'] at h
      obtain ⟨⟨⟨⟨⟨⟨h1, h2⟩, h3⟩, h4⟩, h5⟩, h6⟩, h7⟩ := h
      exact se_mt g h1 (sE o g _ h2) h3 h4 h5 h6 (sEs es g _ h7) fun z => by
        subst z
        cases es <;> first | rfl | (simp [chkEs] at h7)
    · cases h
  | .idx a b, _, _, _, _, _, g, e, h => by
    simp only [chkE] at h
    split at h
    · rw [Bool.and_eq_true, Bool.and_eq_true, Bool.not_eq_true'] at h
      exact se_idx g (sE a g _ h.1.1) (sE b g _ h.1.2) h.2
    · cases h
  | .slc r a lo hi, _, _, _, _, _, g, e, h => by
    simp only [chkE] at h
    split at h
    · rw [Bool.and_eq_true, Bool.and_eq_true] at h
      exact se_slc (sE a g _ h.1.1) (sEo lo g _ h.1.2) (sEo hi g _ h.2)
    · cases h
  | .rev r a, _, _, _, _, _, g, e, h => by
    simp only [chkE] at h
    split at h
    · rw [Bool.and_eq_true, decide_eq_true_eq] at h
      obtain ⟨rfl, h⟩ := h
      exact se_rev (sE a g _ h)
    · cases h
  | .lrng r it, _, _, _, _, _, g, e, h => by
    refine se_lrng g (fun a e ha hc => ?_) h
    cases it with
    | rng1 a1 =>
      have e1 : a = a1 := by
        rcases ha with z | ⟨b, z⟩ | ⟨b, z⟩
        · cases z; rfl
        · cases z
        · cases z
      rw [e1] at hc ⊢
      exact sE a1 g _ hc
    | rng2 a1 b1 =>
      have e1 : a = a1 ∨ a = b1 := by
        rcases ha with z | ⟨b, z⟩ | ⟨b, z⟩
        · cases z
        · cases z; exact .inl rfl
        · cases z; exact .inr rfl
      rcases e1 with e1 | e1
      · rw [e1] at hc ⊢
        exact sE a1 g _ hc
      · rw [e1] at hc ⊢
        exact sE b1 g _ hc
    | ex _ => rcases ha with z | ⟨b, z⟩ | ⟨b, z⟩ <;> cases z
    | enm _ => rcases ha with z | ⟨b, z⟩ | ⟨b, z⟩ <;> cases z
    | zip _ _ _ => rcases ha with z | ⟨b, z⟩ | ⟨b, z⟩ <;> cases z
  | .lc r x own t it c, X, N, sc, fk, W, g, e, h => by
    simp only [chkE] at h
    split at h
    · rename_i x' tg it' cs k scope pos
      rw [Bool.and_eq_true, Bool.and_eq_true, Bool.and_eq_true, Bool.and_eq_true, Bool.and_eq_true, Bool.and_eq_true, Bool.and_eq_true, decide_eq_true_eq, Bool.not_eq_true'] at h
      obtain ⟨⟨⟨⟨⟨⟨⟨rfl, h1⟩, h2⟩, h3⟩, h4⟩, h5⟩, h6⟩, h7⟩ := h
      have gb := G.blk g h1
      refine (se_lc g h1 (fun i hi => ?_) (sI it g _ _ h4) h5 (fun s H C cl fp => (pg_of (gb s H C cl fp) t).1 tg h3) (fun s H C cl fp => ?_) (fun s H C cl fp => (sE x (gb s H C cl fp) _ h7).pe)).1
      · have := List.all_eq_true.mp h2 i hi
        exact List.contains_iff_mem.mp this
      · split at h6
        · cases c with
          | none => exact pts_nil
          | some a => simp [chkEo] at h6
        · rename_i c'
          rw [Bool.and_eq_true, Bool.not_eq_true'] at h6
          cases c with
          | none => simp [chkEo] at h6
          | some a => exact pts_one ((sE a (gb s H C cl fp) c' (by simpa [chkEo] using h6.1)).pt h6.2)
        · cases h6
    · cases h
  | .lc2 _ _ _ _ _ _ _ _ _, _, _, _, _, _, _, _, h => by simp [chkE] at h
  | .dct ks es, _, _, _, _, _, g, e, h => by
    simp only [chkE] at h
    split at h
    · rename_i keys vs pos
      rw [Bool.and_eq_true, Bool.and_eq_true, Bool.and_eq_true, Bool.and_eq_true, decide_eq_true_eq, decide_eq_true_eq] at h
      obtain ⟨⟨⟨⟨h1, h2⟩, h3⟩, h4⟩, h5⟩ := h
      obtain ⟨p1, p2⟩ := sPs es g pos ks keys vs h1 h2 h4 h5
      exact se_dct p1 h1 h3 h4 p2
    · cases h
  | .dc x y own t it c, X, N, sc, fk, W, g, e, h => by
    simp only [chkE] at h
    split at h
    · rename_i x' y' tg it' cs k scope pos
      rw [Bool.and_eq_true, Bool.and_eq_true, Bool.and_eq_true, Bool.and_eq_true, Bool.and_eq_true, Bool.and_eq_true, Bool.and_eq_true, Bool.and_eq_true, decide_eq_true_eq, Bool.not_eq_true'] at h
      obtain ⟨⟨⟨⟨⟨⟨⟨⟨rfl, h1⟩, h2⟩, h3⟩, h4⟩, h5⟩, h6⟩, h7⟩, h8⟩ := h
      have gb := G.blk g h1
      refine (se_dc g h1 (fun i hi => ?_) (sI it g _ _ h4) h5 (fun s H C cl fp => (pg_of (gb s H C cl fp) t).1 tg h3) (fun s H C cl fp => ?_) (fun s H C cl fp => (sE x (gb s H C cl fp) _ h7).pe) (fun s H C cl fp => (sE y (gb s H C cl fp) _ h8).pe)).1
      · have := List.all_eq_true.mp h2 i hi
        exact List.contains_iff_mem.mp this
      · split at h6
        · cases c with
          | none => exact pts_nil
          | some a => simp [chkEo] at h6
        · rename_i c'
          rw [Bool.and_eq_true, Bool.not_eq_true'] at h6
          cases c with
          | none => simp [chkEo] at h6
          | some a => exact pts_one ((sE a (gb s H C cl fp) c' (by simpa [chkEo] using h6.1)).pt h6.2)
        · cases h6
    · cases h
  | .sset r a, _, _, _, _, _, g, e, h => by
    simp only [chkE] at h
    split at h
    · rw [Bool.and_eq_true, Bool.and_eq_true, Bool.and_eq_true, Bool.and_eq_true, Bool.and_eq_true, decide_eq_true_eq, decide_eq_true_eq, Bool.not_eq_true'] at h
      obtain ⟨⟨⟨⟨⟨h1, h2⟩, h3⟩, h4⟩, h5⟩, h6⟩ := h
      exact se_sset g h1 h2 h3 h4 h5 (sE a g _ h6)
    · cases h
  | .isi a ts, _, _, _, _, _, g, e, h => by
    simp only [chkE] at h
    split at h
    · rw [Bool.and_eq_true, Bool.and_eq_true, Bool.and_eq_true, Bool.and_eq_true, Bool.and_eq_true, decide_eq_true_eq, decide_eq_true_eq, Bool.not_eq_true'] at h
      obtain ⟨⟨⟨⟨⟨h1, h2⟩, h3⟩, h4⟩, h5⟩, h6⟩ := h
      exact se_isi g h1 h2 h3 h4 h5 (sE a g _ h6)
    · cases h
  | .fld _ _, _, _, _, _, _, _, _, h => by simp [chkE] at h
  | .gidx i a, _, _, _, _, _, g, e, h => by
    simp only [chkE] at h
    split at h
    · rw [Bool.and_eq_true, Bool.and_eq_true, Bool.and_eq_true, Bool.and_eq_true, Bool.and_eq_true, Bool.and_eq_true, decide_eq_true_eq, decide_eq_true_eq, Bool.not_eq_true'] at h
      obtain ⟨⟨⟨⟨⟨⟨h1, h2⟩, h3⟩, h4⟩, h5⟩, h6⟩, h7⟩ := h
      exact se_gidx g h1 h2 h3 h4 h5 h6 (sE a g _ h7)
    · cases h
theorem sEo {T : Tx} {cls : Nat → Addr} {ck : Ck} : ∀ (x : Eo) {X : Cx} {N : List Str} {sc : Scope} {fk : Str → Bool} {W : WX}, G T cls ck N sc fk W X → ∀ e, chkEo T N sc fk x e = true → PO X e (tEo X cls ck W x)
  | .none, _, _, _, _, _, g, e, h => by
    simp only [chkEo] at h
    split at h
    · exact po_none'
    · cases h
  | .some a, _, _, _, _, _, g, e, h => by
    simp only [chkEo] at h
    split at h
    · exact po_some' (sE a g _ h)
    · cases h
theorem sEs {T : Tx} {cls : Nat → Addr} {ck : Ck} : ∀ (x : Es) {X : Cx} {N : List Str} {sc : Scope} {fk : Str → Bool} {W : WX}, G T cls ck N sc fk W X → ∀ e, chkEs T N sc fk x e = true → PA X e (tEs X cls ck W x)
  | .nil, _, _, _, _, _, g, e, h => by
    simp only [chkEs] at h
    split at h
    · exact pa_nil'
    · cases h
  | .cons a es, _, _, _, _, _, g, e, h => by
    simp only [chkEs] at h
    split at h
    · rw [Bool.and_eq_true, Bool.and_eq_true, Bool.not_eq_true'] at h
      exact pa_cons' h.1.1 (sE a g _ h.1.2) (sEs es g _ h.2)
    · cases h
  | .star a es, _, _, _, _, _, g, e, h => by
    simp only [chkEs] at h
    split at h
    · rw [Bool.and_eq_true] at h
      exact pa_star' (sE a g _ h.1) (sEs es g _ h.2)
    · cases h
theorem sPs {T : Tx} {cls : Nat → Addr} {ck : Ck} : ∀ (x : Es) {X : Cx} {N : List Str} {sc : Scope} {fk : Str → Bool} {W : WX}, G T cls ck N sc fk W X → ∀ (pos : Pos) (ks : List Key) (keys : List (Option Expr)) (l : List Expr), keysB ks keys = true → noStars l = true → keys.length = l.length → chkEs T N sc fk x l = true →
    PPs X pos keys l (trsE X cls ck W ks x) ∧ noStarEs x = true
  | .nil, X, N, sc, fk, W, g, pos, ks, keys, l, hk, hn, hl, h => by
    simp only [chkEs] at h
    split at h
    · cases keys with
      | nil =>
        cases ks with
        | nil => exact ⟨pps_nil, rfl⟩
        | cons _ _ => cases hk
      | cons _ _ => cases hl
    · cases h
  | .star a es, X, N, sc, fk, W, g, pos, ks, keys, l, hk, hn, hl, h => by
    simp only [chkEs] at h
    split at h
    · cases hn
    · cases h
  | .cons a es, X, N, sc, fk, W, g, pos, ks, keys, l, hk, hn, hl, h => by
    simp only [chkEs] at h
    split at h
    · rw [Bool.and_eq_true, Bool.and_eq_true, Bool.not_eq_true'] at h
      cases keys with
      | nil => cases hl
      | cons c keys =>
        cases ks with
        | nil => cases hk
        | cons k ks =>
          cases c with
          | none => cases hk
          | some c =>
            cases c <;> first | (cases hk; done) | skip
            unfold keysB at hk
            rw [Bool.and_eq_true] at hk
            obtain ⟨p1, p2⟩ := sPs es g pos ks keys _ hk.2 (nostar_split hn).2 (by simpa using hl) h.2
            exact ⟨pps_cons (pe_key hk.1) (sE a g _ h.1.2).pe p1, p2⟩
    · cases h
theorem sI {T : Tx} {cls : Nat → Addr} {ck : Ck} : ∀ (x : I) {X : Cx} {N : List Str} {sc : Scope} {fk : Str → Bool} {W : WX}, G T cls ck N sc fk W X → ∀ e tg, chkI T N sc fk x e tg = true → PI X tg e (tI X cls ck W x)
  | .ex a, _, _, _, _, _, g, e, tg, h => pi_ex (sE a g _ (by simpa [chkI] using h))
  | .rng1 a, _, _, _, _, _, g, e, tg, h => by
    simp only [chkI] at h
    split at h
    · rw [Bool.and_eq_true, Bool.and_eq_true, Bool.and_eq_true, decide_eq_true_eq, Bool.not_eq_true'] at h
      obtain ⟨⟨⟨h0, h1⟩, h2⟩, h3⟩ := h
      exact pi_rng1 g h0 h1 h2 (sE a g _ h3)
    · cases h
  | .rng2 a b, _, _, _, _, _, g, e, tg, h => by
    simp only [chkI] at h
    split at h
    · rw [Bool.and_eq_true, Bool.and_eq_true, Bool.and_eq_true, Bool.and_eq_true, Bool.and_eq_true, decide_eq_true_eq, Bool.not_eq_true', Bool.not_eq_true'] at h
      obtain ⟨⟨⟨⟨⟨h0, h1⟩, h2⟩, h3⟩, h4⟩, h5⟩ := h
      exact pi_rng2 g h0 h1 h2 h3 (sE a g _ h4) (sE b g _ h5)
    · cases h
  | .enm a, _, _, _, _, _, g, e, tg, h => by
    simp only [chkI] at h
    split at h
    · split at h
      · rw [Bool.and_eq_true, Bool.and_eq_true, Bool.and_eq_true, decide_eq_true_eq, Bool.not_eq_true'] at h
        obtain ⟨⟨⟨h0, h1⟩, h2⟩, h3⟩ := h
        exact pi_enm g h0 h1 h2 (sE a g _ h3)
      · cases h
    · cases h
  | .zip s a b, _, _, _, _, _, g, e, tg, h => by
    simp only [chkI] at h
    split at h
    · split at h
      · rw [Bool.and_eq_true, Bool.and_eq_true, Bool.and_eq_true, Bool.and_eq_true, Bool.and_eq_true, Bool.and_eq_true, decide_eq_true_eq, Bool.not_eq_true', Bool.not_eq_true', Bool.not_eq_true'] at h
        obtain ⟨⟨⟨⟨⟨⟨_, h0⟩, h1⟩, h2⟩, h3⟩, h4⟩, h5⟩ := h
        exact pi_zp g h0 h1 h2 h3 (sE a g _ h4) (sE b g _ h5)
      · cases h
    · cases h
end
end Ev
set_option Elab.async false
set_option linter.all false
set_option maxRecDepth 100000
/-! Ev14: statements. -/
namespace Ev
open PySem PySem.Spec PyProof.Rows L2

/-! ### the check -/
def compB : Expr → Bool
  | .ListComp _ _ _ _ => true
  | .SetComp _ _ _ _ => true
  | .DictComp _ _ _ _ _ => true
  | _ => false
def tupB : Expr → Bool
  | .Tuple _ _ _ => true
  | _ => false
def opIp : Operator → Option Bop
  | .Add => some .add
  | _ => none
def nmOf (sc : Scope) (line : Nat) : Expr → Option Str
  | .Name id pos => if sc.names.lookup id == some .local && pos.line == line then some id else none
  | _ => none
def lineOf (ts : List Expr) : Nat := (ts.head?.map (·.pos.line)).getD 0
def swP (sc : Scope) (ts vs : List Expr) : Option (Option (List Str)) :=
  if (!(ts.length == 2 || ts.length == 3) || vs.length != ts.length) = true then some none else
  if vs.any starB = true then some none else
  if ((ts.filterMap (nmOf sc (lineOf ts))).length != ts.length || (ts.filterMap (nmOf sc (lineOf ts))).eraseDups.length != (ts.filterMap (nmOf sc (lineOf ts))).length) = true then some none else
  if vs.all (foldedForSure 8) = true then some none else
  if vs.all (constantsAlone 8) = true then none else some (some (ts.filterMap (nmOf sc (lineOf ts))))
def lcl (sc : Scope) (x : Str) : Bool := decide (sc.names.lookup x = some .local)
def chkNs (N : List Str) (sc : Scope) (fk : Str → Bool) : List Nat → List Expr → Bool
  | [], [] => true
  | i :: is, .Name x _ :: r => decide (N[i]? = some x) && locB sc x && (fk x || lcl sc x) && chkNs N sc fk is r
  | _, _ => false
def swOk (sc : Scope) (is : List Nat) (ts vs : List Expr) : Bool :=
  match swP sc ts vs with
  | some none => decide (is.length ≤ 100)
  | some (some names) => match ts with
    | [.Name x _, .Name y _] => decide (names = [x, y]) && lcl sc x && lcl sc y && decide is.Nodup
    | [.Name x _, .Name y _, .Name z _] => decide (names = [x, y, z]) && lcl sc x && lcl sc y && lcl sc z && decide is.Nodup
    | _ => false
  | none => false
/-- a comprehension that is stored under a name as it is let go -/
def swapB (sc : Scope) (e : Expr) (y : Str) (py : Pos) : Bool :=
  match e with
  | .ListComp _ _ s p => lcl sc y && (py.line == p.line) && !(s.names.any fun (n, k) => n == y && (k == .local || k == .cell))
  | .SetComp _ _ s p => lcl sc y && (py.line == p.line) && !(s.names.any fun (n, k) => n == y && (k == .local || k == .cell))
  | .DictComp _ _ _ s p => lcl sc y && (py.line == p.line) && !(s.names.any fun (n, k) => n == y && (k == .local || k == .cell))
  | _ => false
def isFrz : S → Bool
  | .frz _ => true
  | _ => false
def isLc : E → Bool
  | .lc _ _ _ _ _ _ => true
  | .dc _ _ _ _ _ _ => true
  | _ => false
mutual
def chkS (T : Tx) (N : List Str) (sc : Scope) (fk : Str → Bool) : S → Stmt → Bool
  | .expr x, s => match s with
    | .Expr e _ => chkE T N sc fk x e && !compB e
    | _ => false
  | .set i x, s => match s with
    | .Assign [.Name y py] e _ => decide (N[i]? = some y) && locB sc y && (fk y || lcl sc y) && chkE T N sc fk x e && (!swapB sc e y py || isLc x)
    | _ => false
  | .unp g x, s => match s with
    | .Assign [.Tuple ts k p] e _ => chkE T N sc fk x e && chkTg N sc fk g (.Tuple ts k p) && !tupB e
    | _ => false
  | .par is es, s => match s with
    | .Assign [.Tuple ts _ _] (.Tuple vs _ _) _ => noStars ts && noStars vs && chkNs N sc fk is ts && chkEs T N sc fk es vs && swOk sc is ts vs
    | _ => false
  | .sub o i x, s => match s with
    | .Assign [.Subscript o' i' _] e _ => chkE T N sc fk o o' && chkE T N sc fk i i' && !sliceB i' && chkE T N sc fk x e
    | _ => false
  | .aug i o x, s => match s with
    | .AugAssign (.Name y _) op e _ => decide (N[i]? = some y) && locB sc y && (fk y || lcl sc y) && chkE T N sc fk x e && decide (opIp op = some o)
    | _ => false
  | .ite c a b, s => match s with
    | .If c' a' b' _ => chkE T N sc fk c c' && !ifB c' && chkSs T N sc fk a a' && chkSs T N sc fk b b'
    | _ => false
  | .loop g it b, s => match s with
    | .For tg it' b' [] _ => chkTg N sc fk g tg && chkI T N sc fk it it' tg && !setB it' && chkSs T N sc fk b b'
    | _ => false
  | .whl c b, s => match s with
    | .While c' b' [] _ => chkE T N sc fk c c' && !ifB c' && chkSs T N sc fk b b'
    | _ => false
  | .ret x, s => match s with
    | .Return (some e) _ => chkE T N sc fk x e
    | _ => false
  | .ret0, s => match s with
    | .Return none _ => true
    | _ => false
  | .pass, s => match s with
    | .Pass _ => true
    | .Expr (.Constant (.str _) _ _) _ => true
    | _ => false
  | .brk, s => match s with
    | .Break _ => true
    | _ => false
  | .cnt, s => match s with
    | .Continue _ => true
    | _ => false
  | .frz _, _ => false
def chkSs (T : Tx) (N : List Str) (sc : Scope) (fk : Str → Bool) : Ss → List Stmt → Bool
  | .nil, l => match l with
    | [] => true
    | _ => false
  | .cons s ss, l => if isFrz s = true then chkSs T N sc fk ss l else match l with
    | x :: r => chkS T N sc fk s x && chkSs T N sc fk ss r
    | [] => false
end
/-! ### swaps -/
theorem sw_plain {e : Expr} {t : Option Expr} {l : Nat} {env : Env} (h : compB e = false) : swapsWith e t l env = pure false := by
  cases e <;> first | rfl | cases h
theorem sw_tup {ts : List Expr} {k : Nat} {p : Pos} {e : Expr} {l : Nat} {env : Env} : swapsWithSole [.Tuple ts k p] e l env = pure false := by
  cases e <;> rfl
theorem sw_sub {o i : Expr} {p : Pos} {e : Expr} {l : Nat} {env : Env} : swapsWithSole [.Subscript o i p] e l env = pure false := by
  cases e <;> rfl
theorem st_tup {ts : List Expr} {k : Nat} {p : Pos} {e : Expr} {env : Env} (h : tupB e = false) : swappedStores [.Tuple ts k p] e env = pure none := by
  cases e <;> first | rfl | cases h
theorem st_sub {o i : Expr} {p : Pos} {e : Expr} {env : Env} : swappedStores [.Subscript o i p] e env = pure none := by
  cases e <;> rfl
theorem sw_not {e : Expr} {y : Str} {py : Pos} {l : Nat} {env : Env} {sc : Scope} (hs : env.scope = sc) (hk : sc.kind = .function) (h : swapB sc e y py = false) : swapsWith e (some (.Name y py)) l env = pure false := by
  subst hs
  have hb : env.blockKind = .function := by unfold Env.blockKind; rw [hk]; rfl
  have ky : (env.kindOf y == some NameKind.local) = lcl env.scope y := by
    show (env.scope.names.lookup y == some NameKind.local) = decide (env.scope.names.lookup y = some .local)
    generalize env.scope.names.lookup y = z
    cases z with
    | none => rfl
    | some k => cases k <;> rfl
  cases e <;> first
    | rfl
    | (show (pure (env.blockKind == .function && env.kindOf y == some .local && _ && _) : Sem Bool) = pure false
       rw [hb, ky]
       unfold swapB at h
       show (pure (true && lcl env.scope y && _ && _) : Sem Bool) = _
       rw [Bool.true_and]
       exact congrArg pure h)
theorem sw_yes {e : Expr} {y : Str} {py : Pos} {l : Nat} {env : Env} {sc : Scope} (hs : env.scope = sc) (hk : sc.kind = .function) (h : swapB sc e y py = true) : swapsWith e (some (.Name y py)) l env = pure true := by
  subst hs
  have hb : env.blockKind = .function := by unfold Env.blockKind; rw [hk]; rfl
  have ky : (env.kindOf y == some NameKind.local) = lcl env.scope y := by
    show (env.scope.names.lookup y == some NameKind.local) = decide (env.scope.names.lookup y = some .local)
    generalize env.scope.names.lookup y = z
    cases z with
    | none => rfl
    | some k => cases k <;> rfl
  cases e <;> first
    | (cases h; done)
    | (show (pure (env.blockKind == .function && env.kindOf y == some .local && _ && _) : Sem Bool) = pure true
       rw [hb, ky]
       unfold swapB at h
       show (pure (true && lcl env.scope y && _ && _) : Sem Bool) = _
       rw [Bool.true_and]
       exact congrArg pure h)
theorem any_star {vs : List Expr} (f : Expr → Bool) (h : ∀ e, f e = starB e) : (vs.any f = true) = (vs.any starB = true) := by rw [funext h]
theorem fm_nm {ts : List Expr} {sc : Scope} {l : Nat} (f : Expr → Option Str) (h : ∀ e, f e = nmOf sc l e) : ts.filterMap f = ts.filterMap (nmOf sc l) := by rw [funext h]
theorem st_of {ts vs : List Expr} {k k2 : Nat} {p p2 : Pos} {env : Env} {sc : Scope} {r : Option (List Str)} (hs : env.scope = sc) (hk : sc.kind = .function) (h : swP sc ts vs = some r) :
    swappedStores [.Tuple ts k p] (.Tuple vs k2 p2) env = pure r := by
  subst hs
  have hb : env.blockKind = .function := by unfold Env.blockKind; rw [hk]; rfl
  unfold swP at h
  unfold swappedStores
  simp only [hb]
  by_cases h1 : (!(ts.length == 2 || ts.length == 3) || vs.length != ts.length) = true
  · rw [if_pos h1] at h
    cases h
    rw [if_pos (by simpa using h1)]
  rw [if_neg h1] at h
  rw [if_neg (by simpa using h1)]
  by_cases h2 : vs.any starB = true
  · rw [if_pos h2] at h
    cases h
    rw [if_pos ((any_star _ fun e => by cases e <;> rfl).mpr h2)]
  rw [if_neg h2] at h
  rw [if_neg fun z => h2 ((any_star _ fun e => by cases e <;> rfl).mp z)]
  rw [fm_nm (sc := env.scope) (l := lineOf ts)]
  rotate_left
  · intro e
    cases e <;> rfl
  generalize ts.filterMap (nmOf env.scope (lineOf ts)) = names at h ⊢
  by_cases h3 : (names.length != ts.length || names.eraseDups.length != names.length) = true
  · rw [if_pos h3] at h
    cases h
    rw [if_pos h3]
  rw [if_neg h3] at h
  rw [if_neg h3]
  by_cases h4 : vs.all (foldedForSure 8) = true
  · rw [if_pos h4] at h
    cases h
    rw [if_pos h4]
  rw [if_neg h4] at h
  rw [if_neg h4]
  by_cases h5 : vs.all (constantsAlone 8) = true
  · rw [if_pos h5] at h
    cases h
  rw [if_neg h5] at h
  rw [if_neg h5]
  cases h
  rfl
end Ev
set_option Elab.async false
set_option linter.all false
set_option maxRecDepth 100000
/-! Ev15: statements' readings and their rules. -/
namespace Ev
open PySem PySem.Spec PyProof.Rows L2

def WC (E : XK) : WX := fun c d _ H => E c d H
def kF (K : PySem.W.Frag) (D : Ends) : KT Fl := fun fl st' φ' Hf' H' => match fl with
  | .nx en => ∀ σ', RE K φ' st'.length Hf' en σ' → D.nx σ' H'
  | .bk en => ∀ σ', RE K φ' st'.length Hf' en σ' → D.bk σ' H'
  | .ct en => ∀ σ', RE K φ' st'.length Hf' en σ' → D.ct σ' H'
  | .rt v => ∀ w, RV K φ' st'.length Hf' v w → D.rt w H'
def kX (cls : Nat → Addr) (E : XK) : XW := fun c d H => E (.ref (cls c)) d H
def tS (X : Cx) (cls : Nat → Addr) (ck : Ck) (E : XK) (f : Slots → Sto → R Fl) : TS := fun D σ H =>
  ∃ en st φ Hf F, RE X.K φ st.length Hf en σ ∧ RS X.K φ Hf F st H ∧ Out X.K F (kX cls E) φ Hf st.length (f en st) (kF X.K D)
theorem PS.weak {X : Cx} {s : Stmt} {t t' : TS} (h : PS X s t) (m : ∀ D σ H, t' D σ H → t D σ H) : PS X s t' := ⟨fun pins s σ H D I q => h.run pins s σ H D I (m D σ H q)⟩
theorem PSs.weak {X : Cx} {s : List Stmt} {t t' : TS} (h : PSs X s t) (m : ∀ D σ H, t' D σ H → t D σ H) : PSs X s t' := ⟨fun pins s σ H D I q => h.run pins s σ H D I (m D σ H q)⟩
section
variable {X : Cx} {cls : Nat → Addr} {ck : Ck} {Ex : XK} {T : Tx} {N : List Str} {sc : Scope} {fk : Str → Bool}
theorem fin_nx {D : Ends} {en : Slots} {st : Sto} {φ : Nat → Addr} {Hf F H : Hp} {W : XW} {σ : L2.St} (o : Out X.K F W φ Hf st.length (.ok (.nx en) st) (kF X.K D)) (rs : RS X.K φ Hf F st H) (re : RE X.K φ st.length Hf en σ) : D.nx σ H := Out.here o rs σ re
theorem ps_expr' {x : E} {e : Expr} {p : Pos} (h : SE X cls ck (WC Ex) x e) (hc : compB e = false) : PS X (.Expr e p) (tS X cls ck Ex (evS ck (.expr x))) :=
  PS.weak (ps_expr h.pe (sw_plain hc)) fun D σ H ⟨en, st, φ, Hf, F, re, rs, out⟩ =>
    ⟨en, st, φ, Hf, F, re, rs, (Out.bind out).mono fun v st1 φ1 Hf1 H1 u1 rs1 o1 V1 rv1 => fin_nx o1 rs1 (re.up u1)⟩
theorem ps_set' (g : G T cls ck N sc fk (WC Ex) X) {i : Nat} {x : E} {y : Str} {py p : Pos} {e : Expr} (hi : N[i]? = some y) (hl : locB sc y = true) (hf : fk y = true ∨ sc.names.lookup y = some .local) (h : SE X cls ck (WC Ex) x e) (hs : swapB sc e y py = false) :
    PS X (.Assign [.Name y py] e p) (tS X cls ck Ex (evS ck (.set i x))) :=
  PS.weak (ps_set (i := i) (by rw [g.hN]; exact g.nd) (by rw [g.hN]; exact hi) (by rw [g.hs]; exact loc_of hl) h.pe (sw_not g.hs g.kd hs) (by rw [g.hf, g.hs]; exact hf)) fun D σ H ⟨en, st, φ, Hf, F, re, rs, out⟩ =>
    ⟨en, st, φ, Hf, F, re, rs, (Out.bind out).mono fun v st1 φ1 Hf1 H1 u1 rs1 o1 V1 rv1 => fin_nx o1 rs1 ((re.up u1).set rv1)⟩
theorem ps_unp' (g : G T cls ck N sc fk (WC Ex) X) {t : Tg} {x : E} {ts : List Expr} {k : Nat} {q p : Pos} {e : Expr} (hg : chkTg N sc fk t (.Tuple ts k q) = true) (h : SE X cls ck (WC Ex) x e) (hs : tupB e = false) :
    PS X (.Assign [.Tuple ts k q] e p) (tS X cls ck Ex (evS ck (.unp t x))) :=
  PS.weak (ps_asg h.pe ((pg_of g t).1 _ hg) sw_tup (st_tup hs)) fun D σ H ⟨en, st, φ, Hf, F, re, rs, out⟩ =>
    ⟨en, st, φ, Hf, F, re, rs, (Out.bind out).mono fun v st1 φ1 Hf1 H1 u1 rs1 o1 V1 rv1 => by
      obtain ⟨fl, e1, o2⟩ := Out.ofO o1
      cases ea : asg t v en with
      | none => rw [ea] at e1; cases e1
      | some en' =>
        rw [ea] at e1
        cases e1
        exact ⟨en, en', v, st1, φ1, Hf1, F, re.up u1, rs1, rv1, ea, fun σ' re' _ _ => fin_nx o2 rs1 re'⟩⟩
theorem ps_sub' (g : G T cls ck N sc fk (WC Ex) X) {o i x : E} {o' i' e : Expr} {q p : Pos} (ho : SE X cls ck (WC Ex) o o') (hi : SE X cls ck (WC Ex) i i') (hsl : sliceB i' = false) (h : SE X cls ck (WC Ex) x e) :
    PS X (.Assign [.Subscript o' i' q] e p) (tS X cls ck Ex (evS ck (.sub o i x))) :=
  PS.weak (ps_asg h.pe (pg_sub ho.pe hi.pe (set_val (by have := g.un; omega)) (by intro v; cases i' <;> first | rfl | cases hsl)) sw_sub st_sub) fun D σ H ⟨en, st, φ, Hf, F, re, rs, out⟩ =>
    ⟨en, st, φ, Hf, F, re, rs, (Out.bind out).mono fun v st1 φ1 Hf1 H1 u1 rs1 o1 V1 rv1 =>
      ⟨en, st1, φ1, Hf1, F, re.up u1, rs1, (Out.bind o1).mono fun w st2 φ2 Hf2 H2 u2 rs2 o2 V2 rv2 =>
        ⟨en, st2, φ2, Hf2, F, (re.up u1).up u2, rs2, (Out.bind o2).mono fun y st3 φ3 Hf3 H3 u3 rs3 o3 V3 rv3 => by
          split at o3
          · rename_i st4 e4
            exact ⟨w, y, v, st3, φ3, Hf3, F, st4, rs3, rv2.up u3, rv3, (rv1.up u2).up u3, e4, fun H' rs' u4 => fin_nx (o3.from u4) rs' ((((re.up u1).up u2).up u3).up u4)⟩
          · exact o3.elim⟩⟩⟩
theorem ps_setLc' (g : G T cls ck N sc fk (WC Ex) X) {i : Nat} {r : Bool} {x : E} {own : List Nat} {t : Tg} {it : I} {c : Eo} {y : Str} {py p pos : Pos} {x' tg it' : Expr} {cs : List Expr} {scope : Scope}
    (hi : N[i]? = some y) (hs : swapB sc (.ListComp x' [⟨tg, it', cs, 0⟩] scope pos) y py = true)
    (hok : blkC N sc scope (ownP N own) = true) (hown : ∀ i ∈ tgSlots t, i ∈ own) (hit : PI X tg it' (tI X cls ck (WC Ex) it)) (hset : setB it' = false)
    (hg : ∀ (s : Shared) (H : Hp) (C : Addr) (cl : List (Str × Addr)) (fp : List Addr), PG (X.blk s H scope (compEnvC scope cl C X.env) fp) tg (tG X t))
    (ht : ∀ (s : Shared) (H : Hp) (C : Addr) (cl : List (Str × Addr)) (fp : List Addr), PTs (X.blk s H scope (compEnvC scope cl C X.env) fp) cs (tC X cls ck c))
    (he : ∀ (s : Shared) (H : Hp) (C : Addr) (cl : List (Str × Addr)) (fp : List Addr), PE (X.blk s H scope (compEnvC scope cl C X.env) fp) x' (tE X cls ck WNo x)) :
    PS X (.Assign [.Name y py] (.ListComp x' [⟨tg, it', cs, 0⟩] scope pos) p) (tS X cls ck Ex (evS ck (.set i (.lc r x own t it c)))) := by
  have hy : sc.names.lookup y = some .local := by
    unfold swapB at hs
    rw [Bool.and_eq_true, Bool.and_eq_true] at hs
    exact of_decide_eq_true hs.1.1
  refine PS.weak (ps_setLc g.calm (by rw [g.hN]; exact g.nd) (by rw [g.hN]; exact hi) (by rw [g.hs]; exact hy) (sw_yes g.hs g.kd hs) hit (by rw [g.hN, g.hs]; exact blkOk_by hok) hg ht he (foldS hset _)) fun D σ H ⟨en, st, φ, Hf, F, re, rs, out⟩ => ?_
  refine (se_lc (pos := pos) g hok hown hit hset hg ht he).2 σ H _ ⟨en, st, φ, Hf, F, re, rs, (Out.bind out).mono fun v st1 φ1 Hf1 H1 u1 rs1 o1 V1 rv1 => ?_⟩
  exact fin_nx o1 rs1 ((re.up u1).set rv1)
theorem ps_setDc' (g : G T cls ck N sc fk (WC Ex) X) {i : Nat} {x v : E} {own : List Nat} {t : Tg} {it : I} {c : Eo} {y : Str} {py p pos : Pos} {x' v' tg it' : Expr} {cs : List Expr} {scope : Scope}
    (hi : N[i]? = some y) (hs : swapB sc (.DictComp x' v' [⟨tg, it', cs, 0⟩] scope pos) y py = true)
    (hok : blkC N sc scope (ownP N own) = true) (hown : ∀ i ∈ tgSlots t, i ∈ own) (hit : PI X tg it' (tI X cls ck (WC Ex) it)) (hset : setB it' = false)
    (hg : ∀ (s : Shared) (H : Hp) (C : Addr) (cl : List (Str × Addr)) (fp : List Addr), PG (X.blk s H scope (compEnvC scope cl C X.env) fp) tg (tG X t))
    (ht : ∀ (s : Shared) (H : Hp) (C : Addr) (cl : List (Str × Addr)) (fp : List Addr), PTs (X.blk s H scope (compEnvC scope cl C X.env) fp) cs (tC X cls ck c))
    (hk : ∀ (s : Shared) (H : Hp) (C : Addr) (cl : List (Str × Addr)) (fp : List Addr), PE (X.blk s H scope (compEnvC scope cl C X.env) fp) x' (tE X cls ck WNo x))
    (he : ∀ (s : Shared) (H : Hp) (C : Addr) (cl : List (Str × Addr)) (fp : List Addr), PE (X.blk s H scope (compEnvC scope cl C X.env) fp) v' (tE X cls ck WNo v)) :
    PS X (.Assign [.Name y py] (.DictComp x' v' [⟨tg, it', cs, 0⟩] scope pos) p) (tS X cls ck Ex (evS ck (.set i (.dc x v own t it c)))) := by
  have hy : sc.names.lookup y = some .local := by
    unfold swapB at hs
    rw [Bool.and_eq_true, Bool.and_eq_true] at hs
    exact of_decide_eq_true hs.1.1
  refine PS.weak (ps_setDc g.calm (by rw [g.hN]; exact g.nd) (by rw [g.hN]; exact hi) (by rw [g.hs]; exact hy) (sw_yes g.hs g.kd hs) hit (by rw [g.hN, g.hs]; exact blkOk_by hok) hg ht hk he (foldS hset _)) fun D σ H ⟨en, st, φ, Hf, F, re, rs, out⟩ => ?_
  refine (se_dc (pos := pos) g hok hown hit hset hg ht hk he).2 σ H _ ⟨en, st, φ, Hf, F, re, rs, (Out.bind out).mono fun v st1 φ1 Hf1 H1 u1 rs1 o1 V1 rv1 => ?_⟩
  exact fin_nx o1 rs1 ((re.up u1).set rv1)
theorem aug_op {op : Operator} {o : Bop} (h : opIp op = some o) : o = .add ∧ op = .Add := by
  cases op <;> first | (cases h; done) | (cases h; exact ⟨rfl, rfl⟩)
theorem ps_aug' (g : G T cls ck N sc fk (WC Ex) X) {i : Nat} {o : Bop} {x : E} {y : Str} {py p : Pos} {op : Operator} {e : Expr} (hi : N[i]? = some y) (hl : locB sc y = true) (hf : fk y = true ∨ sc.names.lookup y = some .local) (h : SE X cls ck (WC Ex) x e) (ho : opIp op = some o) :
    PS X (.AugAssign (.Name y py) op e p) (tS X cls ck Ex (evS ck (.aug i o x))) := by
  obtain ⟨rfl, rfl⟩ := aug_op ho
  refine PS.weak (ps_aug (i := i) (by rw [g.hN]; exact g.nd) (by rw [g.hN]; exact hi) (by rw [g.hs]; exact loc_of hl) h.pe ip_add (by rw [g.hf, g.hs]; exact hf)) fun D σ H ⟨en, st, φ, Hf, F, re, rs, out⟩ => ?_
  simp only [evS] at out
  split at out
  · rename_i v hv
    obtain ⟨V, e1, rv⟩ := re.2 i v hv
    refine ⟨V, e1, en, st, φ, Hf, F, re, rs, (Out.bind out).mono fun w st1 φ1 Hf1 H1 u1 rs1 o1 V1 rv1 => ?_⟩
    have rv' := rv.up u1
    unfold ipV at o1
    split at o1
    · cases rv'
      cases rv1
      refine ⟨_, _, rfl, rfl, ?_⟩
      exact fin_nx o1 rs1 ((re.up u1).set (x := .d (.int _)) (.int _))
    · exact o1.elim
  · exact out.elim
theorem ps_ite' {c : E} {a b : Ss} {c' : Expr} {a' b' : List Stmt} {p : Pos} (hc : SE X cls ck (WC Ex) c c') (hi : ifB c' = false) (ha : PSs X a' (tS X cls ck Ex (evSs ck a))) (hb : PSs X b' (tS X cls ck Ex (evSs ck b))) :
    PS X (.If c' a' b' p) (tS X cls ck Ex (evS ck (.ite c a b))) :=
  PS.weak (ps_if (hc.pt hi) ha hb) fun D σ H ⟨en, st, φ, Hf, F, re, rs, out⟩ =>
    ⟨en, st, φ, Hf, F, re, rs, (Out.bind out).mono fun v st1 φ1 Hf1 H1 u1 rs1 o1 => by
      split at o1
      · rename_i h
        exact ⟨true, h, ifT ⟨en, st1, φ1, Hf1, F, re.up u1, rs1, o1⟩⟩
      · rename_i h
        exact ⟨false, h, ifF ⟨en, st1, φ1, Hf1, F, re.up u1, rs1, o1⟩⟩
      · exact o1.elim⟩
theorem ps_ret' {x : E} {e : Expr} {p : Pos} (h : SE X cls ck (WC Ex) x e) : PS X (.Return (some e) p) (tS X cls ck Ex (evS ck (.ret x))) :=
  PS.weak (ps_ret h.pe) fun D σ H ⟨en, st, φ, Hf, F, re, rs, out⟩ =>
    ⟨en, st, φ, Hf, F, re, rs, (Out.bind out).mono fun v st1 φ1 Hf1 H1 u1 rs1 o1 V1 rv1 => Out.here o1 rs1 V1 rv1⟩
theorem ps_ret0' {p : Pos} : PS X (.Return none p) (tS X cls ck Ex (evS ck .ret0)) :=
  PS.weak ps_retN fun D σ H ⟨en, st, φ, Hf, F, re, rs, out⟩ => Out.here out rs _ .non
theorem ps_pass' {p : Pos} : PS X (.Pass p) (tS X cls ck Ex (evS ck .pass)) :=
  PS.weak ps_pass fun D σ H ⟨en, st, φ, Hf, F, re, rs, out⟩ => fin_nx out rs re
theorem ps_doc' {x : Str} {j : Nat} {p q : Pos} : PS X (.Expr (.Constant (.str x) j p) q) (tS X cls ck Ex (evS ck .pass)) :=
  PS.weak ps_doc fun D σ H ⟨en, st, φ, Hf, F, re, rs, out⟩ => fin_nx out rs re
theorem ps_brk' {p : Pos} : PS X (.Break p) (tS X cls ck Ex (evS ck .brk)) :=
  PS.weak ps_break fun D σ H ⟨en, st, φ, Hf, F, re, rs, out⟩ => Out.here out rs σ re
theorem ps_cnt' {p : Pos} : PS X (.Continue p) (tS X cls ck Ex (evS ck .cnt)) :=
  PS.weak ps_continue fun D σ H ⟨en, st, φ, Hf, F, re, rs, out⟩ => Out.here out rs σ re
theorem pss_nil' : PSs X [] (tS X cls ck Ex (evSs ck .nil)) :=
  PSs.weak pss_nil fun D σ H ⟨en, st, φ, Hf, F, re, rs, out⟩ => fin_nx out rs re
theorem pss_cons' {s : S} {ss : Ss} {s' : Stmt} {ss' : List Stmt} (h1 : PS X s' (tS X cls ck Ex (evS ck s))) (h2 : PSs X ss' (tS X cls ck Ex (evSs ck ss))) : PSs X (s' :: ss') (tS X cls ck Ex (evSs ck (.cons s ss))) :=
  PSs.weak (pss_cons h1 h2) fun D σ H ⟨en, st, φ, Hf, F, re, rs, out⟩ =>
    ⟨en, st, φ, Hf, F, re, rs, (Out.bind out).mono fun fl st1 φ1 Hf1 H1 u1 rs1 o1 => by
      cases fl with
      | nx en1 => exact fun σ' re' => ⟨en1, st1, φ1, Hf1, F, re', rs1, o1⟩
      | bk en1 => exact fun σ' re' => Out.here o1 rs1 σ' re'
      | ct en1 => exact fun σ' re' => Out.here o1 rs1 σ' re'
      | rt v => exact fun w rv => Out.here o1 rs1 w rv⟩
theorem ps_whl' (hp : PassesOwn (model X.prog X.w) X.A X.env X.xe) {c : E} {b : Ss} {c' : Expr} {b' : List Stmt} {p : Pos} (hc : SE X cls ck (WC Ex) c c') (hi : ifB c' = false) (hb : PSs X b' (tS X cls ck Ex (evSs ck b))) :
    PS X (.While c' b' [] p) (tS X cls ck Ex (evS ck (.whl c b))) :=
  PS.weak (ps_while hp (hc.pt hi) hb) fun D σ H ⟨en, st, φ, Hf, F, re, rs, out⟩ => by
    refine ⟨fun m σ H => ∃ en st φ Hf, RE X.K φ st.length Hf en σ ∧ RS X.K φ Hf F st H ∧ Out X.K F (kX cls Ex) φ Hf st.length (whileF (fun en1 st1 => (evE ck c en1 st1).bind fun x st2 => .ofO (truthV x st2) st2) (fun en1 st1 => evSs ck b en1 st1) m en st) (kF X.K D),
      ⟨100000, en, st, φ, Hf, re, rs, out⟩, fun m σ H ⟨en, st, φ, Hf, re, rs, out⟩ => ?_⟩
    cases m with
    | zero => exact out.elim
    | succ m =>
      have out := Out.bind out
      refine ⟨en, st, φ, Hf, F, re, rs, (Out.bind out).mono fun v st1 φ1 Hf1 H1 u1 rs1 o1 => ?_⟩
      obtain ⟨k, hk, o1⟩ := Out.ofO o1
      have o1 := Out.here o1 rs1
      refine ⟨k, hk, ?_⟩
      cases k with
      | false =>
        refine ifF ?_
        rw [if_neg (by decide)] at o1
        exact fin_nx o1 rs1 (re.up u1)
      | true =>
        refine ifT ⟨fun σ H => ∃ en st φ Hf, RE X.K φ st.length Hf en σ ∧ RS X.K φ Hf F st H ∧ Out X.K F (kX cls Ex) φ Hf st.length (whileF (fun en1 st1 => (evE ck c en1 st1).bind fun x st2 => .ofO (truthV x st2) st2) (fun en1 st1 => evSs ck b en1 st1) m en st) (kF X.K D), fun σ' H' h => ⟨m, Nat.lt_succ_self m, h⟩, en, st1, φ1, Hf1, F, re.up u1, rs1, ?_⟩
        rw [if_pos rfl] at o1
        refine (Out.bind o1).mono fun fl st2 φ2 Hf2 H2 u2 rs2 o2 => ?_
        cases fl with
        | nx en1 => exact fun σ' re' => ⟨en1, st2, φ2, Hf2, re', rs2, o2⟩
        | ct en1 => exact fun σ' re' => ⟨en1, st2, φ2, Hf2, re', rs2, o2⟩
        | bk en1 => exact fun σ' re' => fin_nx o2 rs2 re'
        | rt v => exact fun w rv => Out.here o2 rs2 w rv
theorem ps_loop' (g : G T cls ck N sc fk (WC Ex) X) (hp : PassesOwn (model X.prog X.w) X.A X.env X.xe) {t : Tg} {it : I} {b : Ss} {tg it' : Expr} {b' : List Stmt} {p : Pos} (hg : chkTg N sc fk t tg = true) (hi : PI X tg it' (tI X cls ck (WC Ex) it)) (hset : setB it' = false)
    (hb : PSs X b' (tS X cls ck Ex (evSs ck b))) : PS X (.For tg it' b' [] p) (tS X cls ck Ex (evS ck (.loop t it b))) :=
  PS.weak (ps_for hp g.calm hi ((pg_of g t).1 _ hg) hb (foldS hset _)) fun D σ H ⟨en, st, φ, Hf, F, re, rs, out⟩ => by
    refine ⟨en, st, φ, Hf, F, re, rs, (Out.bind out).mono fun s st1 φ1 Hf1 H1 u1 rs1 o1 hlive J hJ => ?_⟩
    generalize hf : (fun (v : Val) (en1 : Slots) (st2 : Sto) => match asg t v en1 with
      | some en2 => evSs ck b en2 st2
      | none => R.no) = f at o1
    have turn : ∀ {x : Val} {V : V} {en' : Slots} {st' : Sto} {φ' : Nat → Addr} {Hf' H' : Hp} {σ' : L2.St} {k : Fl → Sto → R Fl} {Nn : L2.St → Hp → Prop}, Out X.K F (kX cls Ex) φ' Hf' st'.length ((f x en' st').bind k) (kF X.K D) → RE X.K φ' st'.length Hf' en' σ' → RS X.K φ' Hf' F st' H' → RV X.K φ' st'.length Hf' x V →
        (∀ fl st2 φ2 Hf2 H2, Up φ' Hf' st'.length φ2 Hf2 st2.length → RS X.K φ2 Hf2 F st2 H2 → Out X.K F (kX cls Ex) φ2 Hf2 st2.length (k fl st2) (kF X.K D) → kF X.K { D with nx := Nn, ct := Nn, bk := D.nx } fl st2 φ2 Hf2 H2) →
        tG X t V σ' H' fun σ2 H2 => tS X cls ck Ex (evSs ck b) { D with nx := Nn, ct := Nn, bk := D.nx } σ2 H2 := fun {x V en' st' φ' Hf' H' σ' k Nn} o re rs rv hk => by
      subst hf
      simp only [] at o
      cases ea : asg t x en' with
      | none => rw [ea] at o; exact o.elim
      | some en2 =>
        rw [ea] at o
        exact ⟨en', en2, x, st', φ', Hf', F, re, rs, rv, ea, fun σ2 re2 _ _ => ⟨en2, st', φ', Hf', F, re2, rs, (Out.bind o).mono fun fl st2 φ2 Hf2 H2 u2 rs2 o2 => hk fl st2 φ2 Hf2 H2 u2 rs2 o2⟩⟩
    cases s with
    | stat zs =>
      have hJ : Walks X.K J Hf1 zs := hJ
      refine ⟨fun i m σ H => m = zs.length - i ∧ i ≤ zs.length ∧ ∃ en' st' φ' Hf', Up φ1 Hf1 st1.length φ' Hf' st'.length ∧ RE X.K φ' st'.length Hf' en' σ ∧ RS X.K φ' Hf' F st' H ∧ Out X.K F (kX cls Ex) φ' Hf' st'.length (forS f (zs.drop i) en' st') (kF X.K D),
        ⟨_, rfl, Nat.zero_le _, en, st1, φ1, Hf1, Up.refl, re.up u1, rs1, o1⟩, fun i m σ H ⟨em, hi, en', st', φ', Hf', u, re', rs', o⟩ => ?_⟩
      have hB : ∀ a o, Hf1 a = some o → H a = some o := fun a o z => rs'.sub _ _ (u.up _ _ z)
      by_cases hlt : i < zs.length
      · refine .inr ⟨hJ.go i H hB hlt, fun σ H => (i + 1) ≤ zs.length ∧ ∃ en' st' φ' Hf', Up φ1 Hf1 st1.length φ' Hf' st'.length ∧ RE X.K φ' st'.length Hf' en' σ ∧ RS X.K φ' Hf' F st' H ∧ Out X.K F (kX cls Ex) φ' Hf' st'.length (forS f (zs.drop (i + 1)) en' st') (kF X.K D),
          fun σ' H' h => ⟨zs.length - (i + 1), by omega, rfl, h⟩, fun V1 H' hy => ?_⟩
        have hd : zs[i]? = some zs[i] := List.getElem?_eq_getElem hlt
        obtain ⟨Hf2, rs2, u2, q2⟩ := walk_step hJ (fun a o z => u.up _ _ z) rs' hd hy
        rw [List.drop_eq_getElem_cons hlt] at o
        refine turn (o.from u2) (re'.up u2) rs2 q2 fun fl st3 φ3 Hf3 H3 u3 rs3 o3 => ?_
        cases fl with
        | nx en1 => exact fun σ' re'' => ⟨hlt, en1, st3, φ3, Hf3, u.trans (u2.trans u3), re'', rs3, o3⟩
        | ct en1 => exact fun σ' re'' => ⟨hlt, en1, st3, φ3, Hf3, u.trans (u2.trans u3), re'', rs3, o3⟩
        | bk en1 => exact fun σ' re'' => fin_nx o3 rs3 re''
        | rt v => exact fun w rv => Out.here o3 rs3 w rv
      · have ei : i = zs.length := by omega
        subst ei
        rw [List.drop_length] at o
        exact .inl ⟨hJ.stop H hB, fin_nx o rs' re'⟩
    | live i =>
      have hJ : J = Itl X.K (φ1 i) := hJ
      subst hJ
      obtain ⟨hil, _⟩ := hlive i rfl
      refine ⟨fun k m σ H => ∃ en' st' φ' Hf', Up φ1 Hf1 st1.length φ' Hf' st'.length ∧ RE X.K φ' st'.length Hf' en' σ ∧ RS X.K φ' Hf' F st' H ∧ Out X.K F (kX cls Ex) φ' Hf' st'.length (forLive f i m k en' st') (kF X.K D),
        ⟨100000, en, st1, φ1, Hf1, Up.refl, re.up u1, rs1, o1⟩, fun k m σ H ⟨en', st', φ', Hf', u, re', rs', o⟩ => ?_⟩
      cases m with
      | zero => exact o.elim
      | succ m =>
        simp only [forLive] at o
        split at o
        · rename_i xs hx
          obtain ⟨vs, hv, rv⟩ := live_at rs' hx
          rw [u.eq i hil] at hv
          split at o
          · rename_i hn
            refine .inl ⟨⟨vs, hv, ?_⟩, fin_nx o rs' re'⟩
            rw [← rv.length]
            exact List.getElem?_eq_none_iff.mp hn
          · rename_i y hy
            obtain ⟨V2, h3, h4⟩ := at_pair rv hy
            refine .inr ⟨⟨vs, V2, hv, h3⟩, fun σ H => ∃ en' st' φ' Hf', Up φ1 Hf1 st1.length φ' Hf' st'.length ∧ RE X.K φ' st'.length Hf' en' σ ∧ RS X.K φ' Hf' F st' H ∧ Out X.K F (kX cls Ex) φ' Hf' st'.length (forLive f i m (k + 1) en' st') (kF X.K D), fun σ' H' h => ⟨m, Nat.lt_succ_self _, h⟩, fun V1 H' hyy => ?_⟩
            obtain ⟨rfl, hz⟩ := hyy
            have := hz vs hv
            rw [h3] at this
            cases this
            refine turn o re' rs' h4 fun fl st3 φ3 Hf3 H3 u3 rs3 o3 => ?_
            cases fl with
            | nx en1 => exact fun σ' re'' => ⟨en1, st3, φ3, Hf3, u.trans u3, re'', rs3, o3⟩
            | ct en1 => exact fun σ' re'' => ⟨en1, st3, φ3, Hf3, u.trans u3, re'', rs3, o3⟩
            | bk en1 => exact fun σ' re'' => fin_nx o3 rs3 re''
            | rt v => exact fun w rv => Out.here o3 rs3 w rv
        · exact o.elim
end
end Ev
set_option Elab.async false
set_option linter.all false
set_option maxRecDepth 100000
/-! Ev16: several names at once; all statements. -/
namespace Ev
open PySem PySem.Spec PyProof.Rows L2

section
variable {X : Cx} {cls : Nat → Addr} {ck : Ck} {Ex : XK} {T : Tx} {N : List Str} {sc : Scope} {fk : Str → Bool} {t u : TS} {te : TE} {a b : Expr}
def tPar3 (i j l : Nat) (ta : TA) : TS := fun D σ H => ta σ H fun vs H1 => ∃ v w z, vs = [v, w, z] ∧ D.nx (((σ.set i (some v)).set j (some w)).set l (some z)) H1
theorem ps_par3 {i j l : Nat} {x y z : Str} {a b c : Expr} {ta : TA} {px py pz pt pos : Pos} {kt k2 pt2} (hc : X.calm = true) (hN : X.N.Nodup) (hi : X.N[i]? = some x) (hj : X.N[j]? = some y) (hl : X.N[l]? = some z) (hij : i ≠ j) (hil : i ≠ l) (hjl : j ≠ l)
    (hx : X.env.scope.names.lookup x = some .local) (hy : X.env.scope.names.lookup y = some .local) (hz : X.env.scope.names.lookup z = some .local) (ha : PA X [a, b, c] ta)
    (hw : swappedStores [.Tuple [.Name x px, .Name y py, .Name z pz] kt pt] (.Tuple [a, b, c] k2 pt2) X.env = pure (some [x, y, z]))
    (hs : swapsWithSole [.Tuple [.Name x px, .Name y py, .Name z pz] kt pt] (.Tuple [a, b, c] k2 pt2) pos.line X.env = pure false := by rfl) :
    PS X (.Assign [.Tuple [.Name x px, .Name y py, .Name z pz] kt pt] (.Tuple [a, b, c] k2 pt2) pos) (tPar3 i j l ta) := by
  refine ⟨fun pins s σ H D I h => ?_⟩
  rw [exec_Assign_arm]
  refine wpAny_bind (wpAny_standAt ?_)
  rw [hs]
  refine wpAny_bind (wpAny_pure ?_)
  rw [if_neg (by decide)]
  refine wpAny_bind (Tuple_ (thn (ha.run _ pins s σ H _ I h) fun us s1 ⟨vs, H1, I1, r1, q1⟩ => ?_))
  obtain ⟨v, w, z', e1, q1⟩ := q1
  subst e1
  obtain ⟨u1, u2, u3, rfl, rv, rw', rz⟩ : ∃ u1 u2 u3, us = [u1, u2, u3] ∧ RelV v u1 ∧ RelV w u2 ∧ RelV z' u3 := by
    cases r1 with
    | cons p q =>
      cases q with
      | cons p' q' =>
        cases q' with
        | cons p'' q'' =>
          cases q''
          exact ⟨_, _, _, rfl, p, p', p''⟩
  refine wpAny_newObj_type ?_ (by show 3 ≤ sizeLine; decide)
  have I2 : Inv X pins σ H1 { s1 with heap := s1.heap.push { cls := .type "tuple", data := .seq [u1, u2, u3].toArray } } := I1.kept (t' := s1.toks) fun b o e => Heap.get?_push_of_some _ e
  rw [hw]
  refine wpAny_bind (wpAny_pure ?_)
  show wpAny (model X.prog X.w) X.A (do rule "assign.swapped-stores"; let items ← unpackItems (.ref s1.heap.objs.size) 3 none; assignInOrder [fun v => bindName X.env z v, fun v => bindName X.env y v, fun v => bindName X.env x v] items.reverse; pure Flow.next) _ _ _
  refine wpAny_bind (wpAny_rule (wpAny_bind (unpackItems_tuple (items := #[u1, u2, u3]) (I.ok.hd hc) (IsTup.new s1.heap _) fun h' hx' => ?_)))
  have I3 := I2.kept (h' := h') (t' := s1.toks) fun b o e => hx' b o (Nat.ne_of_lt (Heap.lt_size e)) e
  show wpAny _ _ (assignInOrder [fun v => bindName X.env z v, fun v => bindName X.env y v, fun v => bindName X.env x v] [u3, u2, u1] >>= fun _ => pure Flow.next) _ _ _
  refine wpAny_bind (assignInOrder_cons (wpAny_bindName (store_ok I3 hN hl (.inl hz) rz (fun s2 I4 => ?_) (.inr hz))))
  refine assignInOrder_cons (wpAny_bindName (store_ok I4 hN hj (.inl hy) rw' (fun s3 I5 => ?_) (.inr hy)))
  refine assignInOrder_cons (wpAny_bindName (store_ok I5 hN hi (.inl hx) rv (fun s4 I6 => assignInOrder_nil (wpAny_pure ?_)) (.inr hx)))
  rw [List.set_comm _ _ (Ne.symm hjl), List.set_comm _ _ (Ne.symm hil), List.set_comm _ _ (Ne.symm hij)] at I6
  exact ⟨_, H1, I6, q1⟩
/-- names in a row -/
def gNms : List Nat → TGs
  | [] => gNil
  | i :: is => gCons (gName i) (gNms is)
theorem pgs_nms (g : G T cls ck N sc fk (WC Ex) X) : ∀ (is : List Nat) (ts : List Expr), chkNs N sc fk is ts = true → PGs X ts (gNms is) ∧ ts.length = is.length
  | [], [], _ => ⟨pgs_nil, rfl⟩
  | [], _ :: _, h => by simp [chkNs] at h
  | _ :: _, [], h => by simp [chkNs] at h
  | i :: is, e :: ts, h => by
    unfold chkNs at h
    split at h
    · rename_i h1 h2
      cases h1
    · rename_i i' is' x pos r h1 h2
      cases h1
      cases h2
      rw [Bool.and_eq_true, Bool.and_eq_true, Bool.and_eq_true, decide_eq_true_eq, Bool.or_eq_true] at h
      obtain ⟨⟨⟨h1, h2⟩, h3⟩, h4⟩ := h
      obtain ⟨k1, k2⟩ := pgs_nms g is ts h4
      refine ⟨pgs_cons (pg_name (i := i) (by rw [g.hN]; exact g.nd) (by rw [g.hN]; exact h1) (by rw [g.hs]; exact loc_of h2) (by rw [g.hf, g.hs]; exact h3.imp id fun z => of_decide_eq_true z)) k1 rfl, by rw [List.length_cons, List.length_cons, k2]⟩
    · cases h
theorem gNms_run {K : PySem.W.Frag} {φ : Nat → Addr} {Hf : Hp} {n : Nat} {H : Hp} {Q : L2.St → Hp → Prop} : ∀ (is : List Nat) (vs : List Val) (ws : List V) (en en' : Slots) (σ : L2.St), RVs K φ n Hf vs ws → setAll is vs en = some en' → RE K φ n Hf en σ → (∀ σ', RE K φ n Hf en' σ' → Q σ' H) → gNms is ws σ H Q
  | [], [], _, en, en', σ, r, e, re, q => by
    cases r
    cases e
    exact ⟨rfl, q σ re⟩
  | i :: is, v :: vs, _, en, en', σ, r, e, re, q => by
    cases r with
    | cons r1 r2 => exact ⟨_, _, rfl, gNms_run is vs _ _ _ _ r2 e (re.set r1) q⟩
  | [], _ :: _, _, _, _, _, _, e, _, _ => by cases e
  | _ :: _, [], _, _, _, _, _, e, _, _ => by cases e
theorem setAll_len : ∀ {is : List Nat} {vs : List Val} {en en' : Slots}, setAll is vs en = some en' → vs.length = is.length
  | [], [], _, _, _ => rfl
  | _ :: _, _ :: _, _, _, e => congrArg (· + 1) (setAll_len (show setAll _ _ _ = _ from e))
  | [], _ :: _, _, _, e => by cases e
  | _ :: _, [], _, _, e => by cases e
theorem setAll_re {K : PySem.W.Frag} {φ : Nat → Addr} {Hf : Hp} {n : Nat} {en : Slots} {σ : L2.St} (re : RE K φ n Hf en σ) {i j : Nat} {vs : List Val} {ws : List V} {en' : Slots} (r : RVs K φ n Hf vs ws) (e : setAll [i, j] vs en = some en') :
    ∃ v w, ws = [v, w] ∧ RE K φ n Hf en' ((σ.set i (some v)).set j (some w)) := by
  have := setAll_len e
  cases r with
  | nil => cases this
  | cons r1 r2 =>
    cases r2 with
    | nil => cases this
    | cons r2 r3 =>
      cases r3 with
      | nil =>
        cases e
        exact ⟨_, _, rfl, (re.set r1).set r2⟩
      | cons _ _ => simp at this
theorem setAll_re3 {K : PySem.W.Frag} {φ : Nat → Addr} {Hf : Hp} {n : Nat} {en : Slots} {σ : L2.St} (re : RE K φ n Hf en σ) {i j l : Nat} {vs : List Val} {ws : List V} {en' : Slots} (r : RVs K φ n Hf vs ws) (e : setAll [i, j, l] vs en = some en') :
    ∃ v w z, ws = [v, w, z] ∧ RE K φ n Hf en' (((σ.set i (some v)).set j (some w)).set l (some z)) := by
  have := setAll_len e
  cases r with
  | nil => cases this
  | cons r1 r2 =>
    cases r2 with
    | nil => cases this
    | cons r2 r3 =>
      cases r3 with
      | nil => cases this
      | cons r3 r4 =>
        cases r4 with
        | nil =>
          cases e
          exact ⟨_, _, _, rfl, ((re.set r1).set r2).set r3⟩
        | cons _ _ => simp at this
theorem swP_len {ts vs : List Expr} {names : List Str} (h : swP sc ts vs = some (some names)) : vs.length = ts.length := by
  unfold swP at h
  split at h
  · cases h
  · rename_i h1
    rw [Bool.or_eq_true, not_or] at h1
    simpa using h1.2
theorem loc_dec {x : Str} (h : lcl sc x = true) : sc.names.lookup x = some .local := of_decide_eq_true h
theorem ps_par' (g : G T cls ck N sc fk (WC Ex) X) {is : List Nat} {es : Es} {ts vs : List Expr} {k k2 : Nat} {p p2 pos : Pos} (hn : chkNs N sc fk is ts = true) (hst : noStars ts = true) (ha : PA X vs (tEs X cls ck (WC Ex) es)) (hsw : swOk sc is ts vs = true) :
    PS X (.Assign [.Tuple ts k p] (.Tuple vs k2 p2) pos) (tS X cls ck Ex (evS ck (.par is es))) := by
  unfold swOk at hsw
  split at hsw
  · rename_i hsp
    obtain ⟨hp, hlen⟩ := pgs_nms g is ts hn
    have hst2 := each_len (env := X.env) hst
    refine PS.weak (ps_asg (pe_tup ha) (pg_tup g.calm hp (by rw [hst2.1, hlen]) hst2.2) sw_tup (st_of g.hs g.kd hsp)) fun D σ H ⟨en, st, φ, Hf, F, re, rs, out⟩ => ?_
    refine ⟨en, st, φ, Hf, F, re, rs, (Out.bind out).mono fun xs st1 φ1 Hf1 H1 u1 rs1 o1 ws rvs => ?_⟩
    obtain ⟨fl, e1, o2⟩ := Out.ofO o1
    cases ea : setAll is xs en with
    | none => rw [ea] at e1; cases e1
    | some en' =>
      rw [ea] at e1
      cases e1
      have hwl : ws.length = is.length := by rw [← rvs.length, setAll_len ea]
      refine ⟨?_, fun q hq => ?_⟩
      · rw [hwl]
        exact Nat.le_trans (of_decide_eq_true hsw) (by decide)
      · obtain ⟨rs2, u2⟩ := rs1.lay (o := .tup ws) hq
        exact ⟨q, ws, rfl, .of upd_same, hwl, gNms_run is xs ws en en' σ (RVs.up rvs u2) ea ((re.up u1).up u2) fun σ' re' => fin_nx (o2.from u2) rs2 re'⟩
  · rename_i names hsp
    split at hsw
    · rename_i x px y py
      rw [Bool.and_eq_true, Bool.and_eq_true, Bool.and_eq_true, decide_eq_true_eq, decide_eq_true_eq] at hsw
      obtain ⟨⟨⟨rfl, hx⟩, hy⟩, hnd⟩ := hsw
      cases is with
      | nil => cases hn
      | cons i is =>
        cases is with
        | nil => simp [chkNs] at hn
        | cons j is =>
          cases is with
          | cons _ _ => simp [chkNs] at hn
          | nil =>
            simp only [chkNs] at hn
            rw [Bool.and_eq_true, Bool.and_eq_true, Bool.and_eq_true, decide_eq_true_eq, Bool.and_eq_true, Bool.and_eq_true, Bool.and_eq_true, decide_eq_true_eq] at hn
            obtain ⟨⟨⟨hi, _⟩, _⟩, ⟨⟨hj, _⟩, _⟩, _⟩ := hn
            obtain ⟨v1, v2, rfl⟩ : ∃ a b, vs = [a, b] := by
              have hl := swP_len hsp
              cases vs with
              | nil => cases hl
              | cons a vs =>
                cases vs with
                | nil => cases hl
                | cons b vs =>
                  cases vs with
                  | nil => exact ⟨_, _, rfl⟩
                  | cons _ _ => simp at hl
            refine PS.weak (ps_par (i := i) (j := j) g.calm (by rw [g.hN]; exact g.nd) (by rw [g.hN]; exact hi) (by rw [g.hN]; exact hj) (fun z => by subst z; simp at hnd) (by rw [g.hs]; exact loc_dec hx) (by rw [g.hs]; exact loc_dec hy) ha (st_of g.hs g.kd hsp) sw_tup) fun D σ H ⟨en, st, φ, Hf, F, re, rs, out⟩ => ?_
            refine ⟨en, st, φ, Hf, F, re, rs, (Out.bind out).mono fun xs st1 φ1 Hf1 H1 u1 rs1 o1 ws rvs => ?_⟩
            obtain ⟨fl, e1, o2⟩ := Out.ofO o1
            cases ea : setAll [i, j] xs en with
            | none => rw [ea] at e1; cases e1
            | some en' =>
              rw [ea] at e1
              cases e1
              obtain ⟨v, w, rfl, re'⟩ := setAll_re (re.up u1) rvs ea
              exact ⟨v, w, rfl, fin_nx o2 rs1 re'⟩
    · rename_i x px y py z pz
      rw [Bool.and_eq_true, Bool.and_eq_true, Bool.and_eq_true, Bool.and_eq_true, decide_eq_true_eq, decide_eq_true_eq] at hsw
      obtain ⟨⟨⟨⟨rfl, hx⟩, hy⟩, hz⟩, hnd⟩ := hsw
      cases is with
      | nil => cases hn
      | cons i is =>
        cases is with
        | nil => simp [chkNs] at hn
        | cons j is =>
          cases is with
          | nil => simp [chkNs] at hn
          | cons l is =>
            cases is with
            | cons _ _ => simp [chkNs] at hn
            | nil =>
              simp only [chkNs] at hn
              rw [Bool.and_eq_true, Bool.and_eq_true, Bool.and_eq_true, decide_eq_true_eq, Bool.and_eq_true, Bool.and_eq_true, Bool.and_eq_true, decide_eq_true_eq, Bool.and_eq_true, Bool.and_eq_true, Bool.and_eq_true, decide_eq_true_eq] at hn
              obtain ⟨⟨⟨hi, _⟩, _⟩, ⟨⟨hj, _⟩, _⟩, ⟨⟨hl', _⟩, _⟩, _⟩ := hn
              obtain ⟨v1, v2, v3, rfl⟩ : ∃ a b c, vs = [a, b, c] := by
                have hl := swP_len hsp
                cases vs with
                | nil => cases hl
                | cons a vs =>
                  cases vs with
                  | nil => cases hl
                  | cons b vs =>
                    cases vs with
                    | nil => cases hl
                    | cons c vs =>
                      cases vs with
                      | nil => exact ⟨_, _, _, rfl⟩
                      | cons _ _ => simp at hl
              have hnd' : i ≠ j ∧ i ≠ l ∧ j ≠ l := by
                simp at hnd
                exact ⟨hnd.1.1, hnd.1.2, hnd.2⟩
              refine PS.weak (ps_par3 (i := i) (j := j) (l := l) g.calm (by rw [g.hN]; exact g.nd) (by rw [g.hN]; exact hi) (by rw [g.hN]; exact hj) (by rw [g.hN]; exact hl') hnd'.1 hnd'.2.1 hnd'.2.2 (by rw [g.hs]; exact loc_dec hx) (by rw [g.hs]; exact loc_dec hy) (by rw [g.hs]; exact loc_dec hz) ha (st_of g.hs g.kd hsp) sw_tup) fun D σ H ⟨en, st, φ, Hf, F, re, rs, out⟩ => ?_
              refine ⟨en, st, φ, Hf, F, re, rs, (Out.bind out).mono fun xs st1 φ1 Hf1 H1 u1 rs1 o1 ws rvs => ?_⟩
              obtain ⟨fl, e1, o2⟩ := Out.ofO o1
              cases ea : setAll [i, j, l] xs en with
              | none => rw [ea] at e1; cases e1
              | some en' =>
                rw [ea] at e1
                cases e1
                obtain ⟨v, w, z, rfl, re'⟩ := setAll_re3 (re.up u1) rvs ea
                exact ⟨v, w, z, rfl, fin_nx o2 rs1 re'⟩
    · cases hsw
  · cases hsw
end
end Ev
set_option Elab.async false
set_option linter.all false
set_option maxRecDepth 100000
/-! Ev17: all statements. -/
namespace Ev
open PySem PySem.Spec PyProof.Rows L2

theorem chkE_lc {T : Tx} {N : List Str} {sc : Scope} {fk : Str → Bool} {r : Bool} {x : E} {own : List Nat} {t : Tg} {it : I} {c : Eo} {e : Expr} (h : chkE T N sc fk (.lc r x own t it c) e = true) :
    ∃ x' tg it' cs scope pos, e = .ListComp x' [⟨tg, it', cs, 0⟩] scope pos ∧ blkC N sc scope (ownP N own) = true ∧ (∀ i ∈ tgSlots t, i ∈ own) ∧ chkTg N (relS scope sc) (blkFk scope) t tg = true ∧ chkI T N sc fk it it' tg = true ∧ setB it' = false ∧
      (match cs with
      | [] => chkEo T N (relS scope sc) (blkFk scope) c none
      | [c'] => chkEo T N (relS scope sc) (blkFk scope) c (some c') && !ifB c'
      | _ => false) = true ∧ chkE T N (relS scope sc) (blkFk scope) x x' = true := by
  simp only [chkE] at h
  split at h
  · rename_i x' tg it' cs k scope pos
    rw [Bool.and_eq_true, Bool.and_eq_true, Bool.and_eq_true, Bool.and_eq_true, Bool.and_eq_true, Bool.and_eq_true, Bool.and_eq_true, decide_eq_true_eq, Bool.not_eq_true'] at h
    obtain ⟨⟨⟨⟨⟨⟨⟨rfl, h1⟩, h2⟩, h3⟩, h4⟩, h5⟩, h6⟩, h7⟩ := h
    exact ⟨x', tg, it', cs, scope, pos, rfl, h1, fun i hi => List.contains_iff_mem.mp (List.all_eq_true.mp h2 i hi), h3, h4, h5, h6, h7⟩
  · cases h
theorem chkE_dc {T : Tx} {N : List Str} {sc : Scope} {fk : Str → Bool} {x v : E} {own : List Nat} {t : Tg} {it : I} {c : Eo} {e : Expr} (h : chkE T N sc fk (.dc x v own t it c) e = true) :
    ∃ x' v' tg it' cs scope pos, e = .DictComp x' v' [⟨tg, it', cs, 0⟩] scope pos ∧ blkC N sc scope (ownP N own) = true ∧ (∀ i ∈ tgSlots t, i ∈ own) ∧ chkTg N (relS scope sc) (blkFk scope) t tg = true ∧ chkI T N sc fk it it' tg = true ∧ setB it' = false ∧
      (match cs with
      | [] => chkEo T N (relS scope sc) (blkFk scope) c none
      | [c'] => chkEo T N (relS scope sc) (blkFk scope) c (some c') && !ifB c'
      | _ => false) = true ∧ chkE T N (relS scope sc) (blkFk scope) x x' = true ∧ chkE T N (relS scope sc) (blkFk scope) v v' = true := by
  simp only [chkE] at h
  split at h
  · rename_i x' v' tg it' cs k scope pos
    rw [Bool.and_eq_true, Bool.and_eq_true, Bool.and_eq_true, Bool.and_eq_true, Bool.and_eq_true, Bool.and_eq_true, Bool.and_eq_true, Bool.and_eq_true, decide_eq_true_eq, Bool.not_eq_true'] at h
    obtain ⟨⟨⟨⟨⟨⟨⟨⟨rfl, h1⟩, h2⟩, h3⟩, h4⟩, h5⟩, h6⟩, h7⟩, h8⟩ := h
    exact ⟨x', v', tg, it', cs, scope, pos, rfl, h1, fun i hi => List.contains_iff_mem.mp (List.all_eq_true.mp h2 i hi), h3, h4, h5, h6, h7, h8⟩
  · cases h
section
variable {T : Tx} {cls : Nat → Addr} {ck : Ck} {Ex : XK} {X : Cx} {N : List Str} {sc : Scope} {fk : Str → Bool}
theorem sSet (g : G T cls ck N sc fk (WC Ex) X) {i : Nat} {x : E} {y : Str} {py p : Pos} {e : Expr} (hi : N[i]? = some y) (hl : locB sc y = true) (hf : fk y = true ∨ sc.names.lookup y = some .local) (h : chkE T N sc fk x e = true) (hsw : swapB sc e y py = false ∨ isLc x = true) :
    PS X (.Assign [.Name y py] e p) (tS X cls ck Ex (evS ck (.set i x))) := by
  cases hs : swapB sc e y py with
  | false => exact ps_set' g hi hl hf (sE x g e h) hs
  | true =>
    rcases hsw with z | z
    · rw [hs] at z; cases z
    · cases x <;> first | (cases z; done) | skip
      rotate_left
      · rename_i x v own t it c
        obtain ⟨x', v', tg, it', cs, scope, pos, rfl, h1, h2, h3, h4, h5, h6, h7, h8⟩ := chkE_dc h
        have gb := G.blk g h1
        refine ps_setDc' g hi hs h1 h2 (sI it g _ _ h4) h5 (fun s H C cl fp => (pg_of (gb s H C cl fp) t).1 tg h3) (fun s H C cl fp => ?_) (fun s H C cl fp => (sE x (gb s H C cl fp) _ h7).pe) (fun s H C cl fp => (sE v (gb s H C cl fp) _ h8).pe)
        split at h6
        · cases c with
          | none => exact pts_nil
          | some a => simp [chkEo] at h6
        · rename_i c'
          rw [Bool.and_eq_true, Bool.not_eq_true'] at h6
          cases c with
          | none => simp [chkEo] at h6
          | some a => exact pts_one ((sE a (gb s H C cl fp) c' (by simpa [chkEo] using h6.1)).pt h6.2)
        · cases h6
      rename_i r x own t it c
      obtain ⟨x', tg, it', cs, scope, pos, rfl, h1, h2, h3, h4, h5, h6, h7⟩ := chkE_lc h
      have gb := G.blk g h1
      refine ps_setLc' g hi hs h1 h2 (sI it g _ _ h4) h5 (fun s H C cl fp => (pg_of (gb s H C cl fp) t).1 tg h3) (fun s H C cl fp => ?_) (fun s H C cl fp => (sE x (gb s H C cl fp) _ h7).pe)
      split at h6
      · cases c with
        | none => exact pts_nil
        | some a => simp [chkEo] at h6
      · rename_i c'
        rw [Bool.and_eq_true, Bool.not_eq_true'] at h6
        cases c with
        | none => simp [chkEo] at h6
        | some a => exact pts_one ((sE a (gb s H C cl fp) c' (by simpa [chkEo] using h6.1)).pt h6.2)
      · cases h6
theorem set_at {α : Type} : ∀ {l : List α} {i : Nat} {x : α}, l[i]? = some x → l.set i x = l
  | [], _, _, h => by simp at h
  | _ :: _, 0, _, h => by cases h; rfl
  | _ :: l, i + 1, _, h => congrArg (_ :: ·) (set_at (l := l) h)
theorem RE.setD {K : PySem.W.Frag} {φ : Nat → Addr} {Hf : Hp} {n : Nat} {en : Slots} {σ : L2.St} {i : Nat} {x : Val} {v : V} (h : RE K φ n Hf en σ) (hv : σ[i]? = some (some v)) (r : RV K φ n Hf x v) : RE K φ n Hf (en.set i (some x)) σ := by
  have := h.set (i := i) r
  rw [show σ.set i (some v) = σ from set_at hv] at this
  exact this
theorem pss_frz {s : S} {ss : Ss} {l : List Stmt} (hf : isFrz s = true) (h2 : PSs X l (tS X cls ck Ex (evSs ck ss))) : PSs X l (tS X cls ck Ex (evSs ck (.cons s ss))) := by
  cases s <;> first | (cases hf; done) | skip
  rename_i i
  refine PSs.weak h2 fun D σ H ⟨en, st, φ, Hf, F, re, rs, out⟩ => ?_
  simp only [evSs, evS] at out
  have out := Out.bind out
  split at out
  · rename_i v hv
    split at out
    · rename_i d st1 hd
      obtain ⟨V, e1, rv⟩ := re.2 i v hv
      obtain ⟨Hf1, rs1, u1, q1⟩ := frz_rep 8 rs rv hd
      exact ⟨_, st1, φ, Hf1, F, RE.setD (x := .d d) (re.up u1) e1 q1, rs1, (out.from u1).here rs1⟩
    · exact out.elim
  · exact out.elim
end
mutual
theorem sS {T : Tx} {cls : Nat → Addr} {ck : Ck} {Ex : XK} {X : Cx} {N : List Str} {sc : Scope} {fk : Str → Bool} (g : G T cls ck N sc fk (WC Ex) X) (hp : PassesOwn (model X.prog X.w) X.A X.env X.xe) : ∀ (x : S) (s : Stmt), chkS T N sc fk x s = true → PS X s (tS X cls ck Ex (evS ck x))
  | .expr x, s, h => by
    simp only [chkS] at h
    split at h
    · rw [Bool.and_eq_true, Bool.not_eq_true'] at h
      exact ps_expr' (sE x g _ h.1) h.2
    · cases h
  | .set i x, s, h => by
    simp only [chkS] at h
    split at h
    · rw [Bool.and_eq_true, Bool.and_eq_true, Bool.and_eq_true, Bool.and_eq_true, decide_eq_true_eq, Bool.or_eq_true, Bool.or_eq_true, Bool.not_eq_true'] at h
      obtain ⟨⟨⟨⟨h1, h2⟩, h3⟩, h4⟩, h5⟩ := h
      exact sSet g h1 h2 (h3.imp id fun z => of_decide_eq_true z) h4 h5
    · cases h
  | .unp t x, s, h => by
    simp only [chkS] at h
    split at h
    · rw [Bool.and_eq_true, Bool.and_eq_true, Bool.not_eq_true'] at h
      exact ps_unp' g h.1.2 (sE x g _ h.1.1) h.2
    · cases h
  | .par is es, s, h => by
    simp only [chkS] at h
    split at h
    · rw [Bool.and_eq_true, Bool.and_eq_true, Bool.and_eq_true, Bool.and_eq_true] at h
      obtain ⟨⟨⟨⟨h1, h2⟩, h3⟩, h4⟩, h5⟩ := h
      exact ps_par' g h3 h1 (sEs es g _ h4) h5
    · cases h
  | .sub o i x, s, h => by
    simp only [chkS] at h
    split at h
    · rw [Bool.and_eq_true, Bool.and_eq_true, Bool.and_eq_true, Bool.not_eq_true'] at h
      obtain ⟨⟨⟨h1, h2⟩, h3⟩, h4⟩ := h
      exact ps_sub' g (sE o g _ h1) (sE i g _ h2) h3 (sE x g _ h4)
    · cases h
  | .aug i o x, s, h => by
    simp only [chkS] at h
    split at h
    · rw [Bool.and_eq_true, Bool.and_eq_true, Bool.and_eq_true, Bool.and_eq_true, decide_eq_true_eq, decide_eq_true_eq, Bool.or_eq_true] at h
      obtain ⟨⟨⟨⟨h1, h2⟩, h3⟩, h4⟩, h5⟩ := h
      exact ps_aug' g h1 h2 (h3.imp id fun z => of_decide_eq_true z) (sE x g _ h4) h5
    · cases h
  | .ite c a b, s, h => by
    simp only [chkS] at h
    split at h
    · rw [Bool.and_eq_true, Bool.and_eq_true, Bool.and_eq_true, Bool.not_eq_true'] at h
      obtain ⟨⟨⟨h1, h2⟩, h3⟩, h4⟩ := h
      exact ps_ite' (sE c g _ h1) h2 (sSs g hp a _ h3) (sSs g hp b _ h4)
    · cases h
  | .loop t it b, s, h => by
    simp only [chkS] at h
    split at h
    · rw [Bool.and_eq_true, Bool.and_eq_true, Bool.and_eq_true, Bool.not_eq_true'] at h
      obtain ⟨⟨⟨h1, h2⟩, h3⟩, h4⟩ := h
      exact ps_loop' g hp h1 (sI it g _ _ h2) h3 (sSs g hp b _ h4)
    · cases h
  | .whl c b, s, h => by
    simp only [chkS] at h
    split at h
    · rw [Bool.and_eq_true, Bool.and_eq_true, Bool.not_eq_true'] at h
      exact ps_whl' hp (sE c g _ h.1.1) h.1.2 (sSs g hp b _ h.2)
    · cases h
  | .ret x, s, h => by
    simp only [chkS] at h
    split at h
    · exact ps_ret' (sE x g _ h)
    · cases h
  | .ret0, s, h => by
    simp only [chkS] at h
    split at h
    · exact ps_ret0'
    · cases h
  | .pass, s, h => by
    simp only [chkS] at h
    split at h
    · exact ps_pass'
    · exact ps_doc'
    · cases h
  | .brk, s, h => by
    simp only [chkS] at h
    split at h
    · exact ps_brk'
    · cases h
  | .cnt, s, h => by
    simp only [chkS] at h
    split at h
    · exact ps_cnt'
    · cases h
  | .frz _, s, h => by simp [chkS] at h
theorem sSs {T : Tx} {cls : Nat → Addr} {ck : Ck} {Ex : XK} {X : Cx} {N : List Str} {sc : Scope} {fk : Str → Bool} (g : G T cls ck N sc fk (WC Ex) X) (hp : PassesOwn (model X.prog X.w) X.A X.env X.xe) : ∀ (x : Ss) (s : List Stmt), chkSs T N sc fk x s = true → PSs X s (tS X cls ck Ex (evSs ck x))
  | .nil, s, h => by
    simp only [chkSs] at h
    split at h
    · exact pss_nil'
    · cases h
  | .cons x xs, s, h => by
    simp only [chkSs] at h
    split at h
    · rename_i hf
      exact pss_frz hf (sSs g hp xs _ h)
    · split at h
      · rw [Bool.and_eq_true] at h
        exact pss_cons' (sS g hp x _ h.1) (sSs g hp xs _ h.2)
      · cases h
end
end Ev
set_option Elab.async false
set_option linter.all false
set_option maxRecDepth 100000
/-! Ev18: the functions of a program, to a depth. -/
namespace Ev
open PySem PySem.Spec PyProof.Rows L2

structure HasFn (K : PySem.W.Frag) (mg : Str → Option Value) (T : Tx) (x : Str) (d : Def) : Prop where
  ex : ∃ (qual : Str) (st : Stmt) (fa : Addr) (fd : FuncData) (N ps : List Str), FunD K x qual (defArgs st) (defBody st) (defScope st) [] [] fa fd ∧ FnScope N ps (defScope st) ∧ Binds K fd ps [] ∧ mg x = some (.ref fa) ∧ d.np = ps.length ∧ d.ns = N.length ∧
    chkSs T N (defScope st) (fun _ => true) d.body (defBody st) = true
structure Head (K : PySem.W.Frag) (mg : Str → Option Value) (T : Tx) (defs : Nat → Option Def) (glo : Nat → Option D) : Prop where
  fns : ∀ (f : Nat) (x : Str), T.nm f = some x → ∃ d, defs f = some d ∧ HasFn K mg T x d
  free : ∀ x, x ∈ freeNames → mg x = none
  glo : ∀ (i : Nat) (x : Str) (d : D), T.gn i = some x → glo i = some d → ∃ u v, mg x = some u ∧ RelV v u ∧ Dq K (fun _ => none) v d ∧ GK K v
theorem start_re {K : PySem.W.Frag} {φ : Nat → Addr} {Hf : Hp} {n : Nat} {as : List Val} {vs : List V} (r : RVs K φ n Hf as vs) (m : Nat) (N : List Str) (hN : m = N.length) : RE K φ n Hf (startE m as) (L2.start N vs) := by
  subst hN
  unfold startE L2.start
  rw [r.length]
  generalize N.length - vs.length = k
  induction r with
  | nil =>
    refine ⟨by simp, fun i x h => ?_⟩
    simp only [List.map_nil, List.nil_append] at h
    rw [List.getElem?_replicate] at h
    split at h <;> cases h
  | @cons a v as vs h1 h2 ih =>
    refine ⟨by have := ih.1; simpa using this, fun i x h => ?_⟩
    cases i with
    | zero =>
      simp only [List.map_cons, List.cons_append, List.getElem?_cons_zero] at h
      cases h
      exact ⟨v, rfl, h1⟩
    | succ i =>
      simp only [List.map_cons, List.cons_append, List.getElem?_cons_succ] at h
      obtain ⟨w, e1, e2⟩ := ih.2 i x h
      exact ⟨w, by simpa using e1, e2⟩
/-- all that is not data is kept beside -/
def sideOf (Hf H : Hp) : Hp := fun a => match Hf a with
  | none => H a
  | some _ => none
theorem side_eq {Hf H : Hp} {a : Addr} {o : HO} (h : sideOf Hf H a = some o) : H a = some o ∧ Hf a = none := by
  unfold sideOf at h
  split at h
  · rename_i e
    exact ⟨h, e⟩
  · cases h
theorem side_rs {K : PySem.W.Frag} {φ : Nat → Addr} {Hf F H : Hp} {st : Sto} (rs : RS K φ Hf F st H) : RS K φ Hf (sideOf Hf H) [] H :=
  ⟨rs.sub, fun a o h => (side_eq h).1, fun a o h => (side_eq h).2, fun i c h => by simp at h, fun i j ⟨c, h, _⟩ => by simp at h, fun i xs h => by simp at h⟩
/-- what was laid beside the frame is data from here on -/
theorem side_back {K : PySem.W.Frag} {φ φ' : Nat → Addr} {Hf Hf' F H H' : Hp} {st st0 : Sto} (rs : RS K φ Hf F st H) (u : Up φ Hf 0 φ' Hf' st0.length) (rs' : RS K φ' Hf' (sideOf Hf H) st0 H') : RS K φ Hf' F st H' ∧ Up φ Hf st.length φ Hf' st.length := by
  have side : ∀ a o, Hf a = none → H a = some o → sideOf Hf H a = some o := fun a o h1 h2 => by unfold sideOf; rw [h1]; exact h2
  have fnone : ∀ a o, F a = some o → sideOf Hf H a = some o := fun a o h => side a o (rs.dis a o h) (rs.fr a o h)
  have up : Up φ Hf st.length φ Hf' st.length := ⟨Nat.le_refl _, fun _ _ => rfl, u.up⟩
  refine ⟨⟨rs'.sub, fun a o h => rs'.fr _ _ (fnone a o h), fun a o h => rs'.dis _ _ (fnone a o h), fun i c h1 h2 => ?_, rs.inj, rs.scr.up up⟩, up⟩
  obtain ⟨o, e, ro, z1, z2⟩ := rs.cell i c h1 h2
  have := side _ _ z1 e
  exact ⟨o, rs'.fr _ _ this, ro.up up, rs'.dis _ _ this, z2⟩
section
variable {P : Program} {w : World} {K : PySem.W.Frag} {mg : Str → Option Value} {T : Tx} {defs : Nat → Option Def} {glo : Nat → Option D} {cls : Nat → Addr}
theorem finish_run {K : PySem.W.Frag} {F : Hp} {W : XW} {φ : Nat → Addr} {Hf : Hp} {n : Nat} {r : R Fl} {Q : VK} (o : Out K F W φ Hf n (finish r) (kQ K Q)) : Out K F W φ Hf n r (kF K { nx := fun _ H' => Q .non H', rt := Q }) :=
  (Out.bind o).mono fun fl st1 φ1 Hf1 H1 u1 rs1 o1 => by
    cases fl with
    | nx en => exact fun σ' _ => Out.here o1 rs1 _ .non
    | rt v => exact fun w rv => Out.here o1 rs1 w rv
    | bk en => exact o1.elim
    | ct en => exact o1.elim
theorem fn_row (hd : Head K mg T defs glo) {k : Nat} (ih : ∀ (f : Nat) (x : Str), T.nm f = some x → ∃ fa fd ps, mg x = some (.ref fa) ∧ PySem.W.keepIn K (.ref fa) = true ∧ Binds K fd ps [] ∧
    ∀ base : Heap, FnG P w K mg base k fa fd ps (spOf K cls (calls defs glo k) f)) {f : Nat} {x qual : Str} {d : Def} {st : Stmt} {fa : Addr} {fd : FuncData} {N ps : List Str} (e : defs f = some d) (F : FunD K x qual (defArgs st) (defBody st) (defScope st) [] [] fa fd) (S : FnScope N ps (defScope st)) (hnp : d.np = ps.length) (hns : d.ns = N.length)
    (hchk : chkSs T N (defScope st) (fun _ => true) d.body (defBody st) = true) (base : Heap) : FnG P w K mg base (k + 1) fa fd ps (spOf K cls (calls defs glo (k + 1)) f) := by
  have run : ∀ vs H Q E, spOf K cls (calls defs glo (k + 1)) f vs H Q E → ∃ as st φ Hf F, RS K φ Hf F st H ∧ RVs K φ st.length Hf as vs ∧ as.length = ps.length ∧ Out K F (kX cls E) φ Hf st.length (runDef ⟨calls defs glo k, glo⟩ d as st) (kQ K Q) := fun vs H Q E ⟨as, st, φ, Hf, F, rs, rv, o⟩ => by
    unfold calls at o
    rw [e] at o
    refine ⟨as, st, φ, Hf, F, rs, rv, ?_, o⟩
    have o : Out K F _ φ Hf st.length (runDef ⟨calls defs glo k, glo⟩ d as st) (kQ K Q) := o
    unfold runDef at o
    split at o
    · rename_i h; rw [h, hnp]
    · exact o.elim
  refine fun_okG F S (fun vs H Q E z => ?_) fun cdv A outer s H vs Q E hr hgd z => ?_
  · obtain ⟨as, st, φ, Hf, F, rs, rv, hl, o⟩ := run _ _ _ _ z
    rw [← rv.length, hl]
  · obtain ⟨as, sto, φ, Hf, F, rs, rv, hl, o⟩ := run _ _ _ _ z
    have g : G T cls ⟨calls defs glo k, glo⟩ N (defScope st) (fun _ => true) (WC E) (cxOf (L2.CX P w) P w K mg base N qual (defScope st) fa cdv A outer s H E) :=
      { hN := rfl, nd := S.nd, hs := rfl, kd := S.kind, hf := rfl, calm := rfl, gd := hgd, un := by have := hr.un; show (A.deeper _).units + 65 < _; omega, free := hd.free, glo := hd.glo,
        fns := fun f x h => by
          obtain ⟨fa, fd, ps, h1, h2, h3, h4⟩ := ih f x h
          exact ⟨k, fa, fd, ps, hr, h1, h2, h3, h4 base⟩,
        pas := fun σ => passAt (takes_of rfl rfl rfl rfl) σ }
    refine ⟨_, sSs g (passes_of rfl) d.body (defBody st) hchk, ?_⟩
    unfold runDef at o
    rw [if_pos (by rw [hl, hnp])] at o
    split at o
    · split at o
      · rename_i ds st1 hds
        obtain ⟨Hf1, rs1, u1, q1⟩ := frzAll_rep (fun a b c => frz_rep 8 a b c) rs rv hds
        split at o
        · rename_i v st0 hv
          split at o
          · rename_i x st2 hx
            refine ⟨startE d.ns (ds.map .d), [], φ, Hf1, sideOf Hf1 H, start_re (RVs.to_dats q1) _ _ hns, side_rs rs1, finish_run ?_⟩
            show Out K _ _ φ Hf1 0 (finish (evSs ⟨calls defs glo k, glo⟩ d.body (startE d.ns (ds.map .d)) [])) _
            rw [hv]
            intro φ2 Hf2 H2 u2 rs2 V rV
            obtain ⟨Hf3, rs3, u3, q3⟩ := frz_rep 8 rs2 rV hx
            obtain ⟨rs4, u4⟩ := side_back rs1 (u2.trans u3) rs3
            exact (o.from u1) φ Hf3 H2 u4 rs4 V q3
          · exact o.elim
        · exact o.elim
      · exact o.elim
    · exact ⟨startE d.ns as, sto, φ, Hf, F, start_re rv _ _ hns, rs, finish_run o⟩
theorem fns_ok (hd : Head K mg T defs glo) : ∀ (k f : Nat) (x : Str), T.nm f = some x → ∃ fa fd ps, mg x = some (.ref fa) ∧ PySem.W.keepIn K (.ref fa) = true ∧ Binds K fd ps [] ∧
    ∀ base : Heap, FnG P w K mg base k fa fd ps (spOf K cls (calls defs glo k) f)
  | 0, f, x, h => by
    obtain ⟨d, e, ⟨qual, st, fa, fd, N, ps, F, S, B, hm, _⟩⟩ := hd.fns f x h
    have no : ∀ vs H Q E, ¬ spOf K cls (calls defs glo 0) f vs H Q E := fun vs H Q E ⟨_, _, _, _, _, _, _, o⟩ => o.elim
    exact ⟨fa, fd, ps, hm, F.kp, B, fun base => ⟨fun vs H Q E z => (no _ _ _ _ z).elim, fun A outer s H args us vs Q E _ _ _ _ _ z => (no _ _ _ _ z).elim⟩⟩
  | k + 1, f, x, h => by
    obtain ⟨d, e, ⟨qual, st, fa, fd, N, ps, F, S, B, hm, hnp, hns, hchk⟩⟩ := hd.fns f x h
    exact ⟨fa, fd, ps, hm, F.kp, B, fun base => fn_row hd (fns_ok hd k) e F S hnp hns hchk base⟩
end
end Ev
set_option Elab.async false
set_option linter.all false
set_option maxRecDepth 100000
/-! Ev19: the law's call, from a promise with guards; the walk that a head leaves. -/
namespace Ev
open PySem PySem.Spec PyProof.Rows L2

/-- the heap that the script's list is, beside all else -/
def only1 (a : Addr) (o : HO) : Hp := fun b => if b = a then some o else none
section
variable {P : Program} {w : World} {K : PySem.W.Frag} {mg mb : Str → Option Value} {k : Nat} {fa a : Addr} {fd : FuncData} {x : Str} {sp : Sp} {s : Shared} {vs : List Value} {ns : List Int}
theorem law_run {H : Hp} (KX : K.In s.heap) (hns : s.heap.Ns mainGlobals mg) (hb : s.heap.Ns builtinsNs mb) (hbb : ∀ x : Str, x ≠ "__name__" → mb x = bootBuiltins x) (hlim : s.heap.NoLimit) (hg : s.gens = #[])
    (hfree : ∀ b o, s.heap.get? b = some o → (∃ es ep, o.data = .dict es ep) ∨ K.lookup b = some o → H b = none)
    (hok : HOk P w H s.heap) (hold : ∀ b u, H b = some u → ∃ o xs, u = .frz o (.lst xs))
    (hr : Room k callerA) (F : ∀ base : Heap, K.In base → base.Ns mainGlobals mg → FnG P w K mg base k fa fd [x] sp) (hbind : ∀ (s : Shared) (u : Value), BindsTo s fd ⟨[u], []⟩ [(x, u)])
    (hsp : sp [.ref a] H (fun v _ => v = .bl true) fun _ _ _ => False) :
    codeAny (model P w) callerA (.call (.ref fa) ⟨[.ref a], []⟩) (fun r s' => r = .ok (.ret (.bool true)) ∧ OldK s.heap s'.heap ∧ s'.os = s.os ∧ AllBare s'.gens) s := by
  have nsK : ∀ {b : Addr} {m : Str → Option Value}, s.heap.Ns b m → (hidT s.heap H).Ns b m := fun {b m} ⟨o, es, ep, e, d, r⟩ => ⟨o, es, ep, hidT_get e (hfree b o e (.inl ⟨es, ep, d⟩)), d, r⟩
  have hKb : K.In (hidT s.heap H) := fun b o e => hidT_get (KX b o e) (hfree b o (KX b o e) (.inr e))
  have hM : Mod K mg (hidT s.heap H) := ⟨hKb, nsK hns, ⟨mb, nsK hb, hbb⟩, let ⟨mc, h1, h2⟩ := hlim; ⟨mc, nsK h1, h2⟩⟩
  have e0 : Env0 P w K mg (hidT s.heap H) callerA [] s H := ⟨rfl, hM, fun b o e => of_hidT e, Nat.le_of_eq (hidT_size _ _), trivial, fun b hb => absurd (show b ∈ ([] : List Addr) from hb) (by simp), hok, .of_eq hg⟩
  refine codeAny_mono ((F _ hKb (nsK hns)).run callerA [] s H ⟨[.ref a], []⟩ [.ref a] [.ref a] _ _ hr rfl e0 (hbind s (.ref a)) (.cons rfl .nil) hsp) fun r s' h => ?_
  rcases r with z | fl
  · obtain ⟨_, _, _, _, _, _, _, _, _, _, _, _, z⟩ := h
    exact z.elim
  · cases fl with
    | next => exact h.elim
    | brk => exact h.elim
    | cont => exact h.elim
    | ret u =>
      obtain ⟨v, H', os, bare, un, hok', r', q⟩ := h
      have q' : v = .bl true := q
      subst q'
      obtain rfl : u = Value.bool true := r'
      refine ⟨rfl, OldK.of_keep fun b o e => ?_, os, bare⟩
      cases q : H b with
      | none => exact un.keep b o e q (by intro z; exact absurd (show b ∈ ([] : List Addr) from z) (by simp)) (by simp)
      | some u =>
        obtain ⟨ob, xs, rfl⟩ := hold b u q
        obtain ⟨e1, _⟩ := hok b _ q
        obtain ⟨e2, _⟩ := hok' b _ (un.frzs b ob _ q)
        rw [e] at e1
        cases e1
        exact e2
theorem law_callG (KX : K.In s.heap) (hns : s.heap.Ns mainGlobals mg) (hb : s.heap.Ns builtinsNs mb) (hbb : ∀ x : Str, x ≠ "__name__" → mb x = bootBuiltins x) (hlim : s.heap.NoLimit) (hg : s.gens = #[])
    (ha : s.heap.get? a = some { cls := .type "list", data := .seq vs.toArray }) (hi : IntsAre vs ns) (hl : ns.length ≤ sizeLine) (hr : Room k callerA)
    (F : ∀ base : Heap, K.In base → base.Ns mainGlobals mg → FnG P w K mg base k fa fd [x] sp) (hbind : ∀ (s : Shared) (u : Value), BindsTo s fd ⟨[u], []⟩ [(x, u)])
    (hsp : ∀ H : Hp, (H = fun _ => none) ∨ (∃ o, H = only1 a (.frz o (.lst (ns.map V.int)))) → SqL K H a (ns.map V.int) → sp [.ref a] H (fun v _ => v = .bl true) fun _ _ _ => False) :
    codeAny (model P w) callerA (.call (.ref fa) ⟨[.ref a], []⟩) (fun r s' => r = .ok (.ret (.bool true)) ∧ OldK s.heap s'.heap ∧ s'.os = s.os ∧ AllBare s'.gens) s := by
  have rv := vals_ints hi
  cases hk : K.lookup a with
  | some o =>
    have e := KX a o hk
    rw [ha] at e
    cases e
    refine law_run (H := fun _ => none) KX hns hb hbb hlim hg (fun _ _ _ _ => rfl) (fun b u z => ?_) (fun b u z => ?_) hr F hbind (hsp _ (.inl rfl) (.inr ⟨_, vs.toArray, _, hk, rfl, rfl, rfl, by rw [List.size_toArray, hi.length]; exact hl, by simpa using rv⟩))
    · have z' : (none : Option HO) = some u := z
      cases z'
    · have z' : (none : Option HO) = some u := z
      cases z'
  | none =>
    have at_ : ∀ b u, only1 a (.frz { cls := .type "list", data := .seq vs.toArray } (.lst (ns.map V.int))) b = some u → b = a ∧ u = .frz { cls := .type "list", data := .seq vs.toArray } (.lst (ns.map V.int)) := fun b u z => by
      unfold only1 at z
      split at z
      · rename_i e; cases z; exact ⟨e, rfl⟩
      · cases z
    refine law_run (H := only1 a (.frz { cls := .type "list", data := .seq vs.toArray } (.lst (ns.map V.int)))) KX hns hb hbb hlim hg (fun b o e h => ?_) (fun b u z => ?_) (fun b u z => ?_) hr F hbind (hsp _ (.inr ⟨_, rfl⟩) (.inl (.inr ⟨{ cls := .type "list", data := .seq vs.toArray }, if_pos rfl⟩)))
    · refine if_neg fun hb => ?_
      subst hb
      rcases h with ⟨es, ep, d⟩ | h
      · rw [ha] at e
        cases e
        cases d
      · rw [hk] at h
        cases h
    · obtain ⟨rfl, rfl⟩ := at_ b u z
      exact ⟨ha, by rw [List.length_map]; exact hl, vs, _, rv, ha⟩
    · obtain ⟨rfl, rfl⟩ := at_ b u z
      exact ⟨_, _, rfl⟩
end
theorem walk_ofG {l : PySem.W.OpenLaw} {n k : Nat} {q : Program} {loose : List Str} {XP : (Str → Option Value) → Heap → Prop} {YP : World → Heap → Prop} {d : DefRec} {x : Str}
    (hn : l.most = some n) (hn2 : n ≤ sizeLine) (hdf : d.params.defaults = []) (hr : Room k callerA)
    (F : ∀ (w : World) (mg : Str → Option Value) (fa : Addr) (h : Heap), YP w h → h.Ns mainGlobals mg → mg d.name = some (.ref fa) →
      ∃ (K : PySem.W.Frag) (fd : FuncData) (sp : Sp), K.In h ∧ (∀ (s : Shared) (u : Value), BindsTo s fd ⟨[u], []⟩ [(x, u)]) ∧
        (∀ (H : Hp) (a : Addr) (ns : List Int), ns.length ≤ n → (∀ z ∈ ns, Builtin.Int.intBits z ≤ 1048576) → (H = fun _ => none) ∨ (∃ o, H = only1 a (.frz o (.lst (ns.map V.int)))) → SqL K H a (ns.map V.int) → sp [.ref a] H (fun v _ => v = .bl true) fun _ _ _ => False) ∧
        ∀ base : Heap, K.In base → base.Ns mainGlobals mg → FnG l.prog w K mg base k fa fd [x] sp) :
    PySem.W.WalkO q loose XP YP l.row.toRowW d [] (fun f vs => PySem.call f vs) := by
  refine Att.attach_callB hn hdf fun w s₀ s₁ mg mb fa o pm cd doc a vs ns G Y ho hd hcd hmg hobj hints hlen hbits hg => ?_
  obtain ⟨K, fd, sp, KX, hb, hsp, hF⟩ := F w mg fa _ Y G.T.g hmg
  exact law_callG KX G.T.g G.T.b G.T.builtins G.T.nolimit hg hobj hints (Nat.le_trans hlen hn2) hr hF hb fun H hO hS => hsp H a ns hlen hbits hO hS
end Ev
set_option Elab.async false
set_option linter.all false
set_option maxRecDepth 100000
/-! Ev20: from a head's facts to the functions; the law's end. -/
namespace Ev
open PySem PySem.Spec PyProof.Rows L2

theorem lookup_mem {α : Type} {x : Nat} {y : α} : ∀ {l : List (Nat × α)}, l.lookup x = some y → (x, y) ∈ l
  | [], h => by cases h
  | (a, b) :: l, h => by
    rw [List.lookup_cons] at h
    split at h
    · rename_i e
      have e := eq_of_beq e
      cases e
      cases h
      exact List.mem_cons_self
    · exact List.mem_cons_of_mem _ (lookup_mem h)
def defD (x : Str) (st : Stmt) : He.DefD := ⟨(x, none), x, x, defArgs st, defBody st, defScope st, [], []⟩
abbrev BindsAs (x : Str) (st : Stmt) (ps : List Str) : Prop :=
  ∀ (kV doc pm : Value) (an : Option Addr) (cdv ct : Value) (us : List Value), us.length = ps.length → bindArgs (PySem.W.fnOf x x (defArgs st) (defBody st) (defScope st) .none kV doc pm an cdv ct) ⟨us, []⟩ = pure (ps.zip us)
structure Row (T : Tx) (fa : List He.Fa) (fn : List He.DefD) (x : Str) (d : Def) (st : Stmt) (N ps : List Str) : Prop where
  df : defD x st ∈ fn
  gl : He.Fa.glo x ∈ fa
  sc : FnScope N ps (defScope st)
  np : d.np = ps.length
  ns : d.ns = N.length
  ck : chkSs T N (defScope st) (fun _ => true) d.body (defBody st) = true
  bd : BindsAs x st ps
section
variable {K : PySem.W.Frag} {h : Heap} {mg : Str → Option Value} {fa : List He.Fa} {fn : List He.DefD} {T : Tx} {defs : Nat → Option Def} {glo : Nat → Option D}
theorem row_fun (X : K.In h) (G : h.Ns mainGlobals mg) (c : He.SaysD fa fn K) {x : Str} {d : Def} {st : Stmt} {N ps : List Str} (r : Row T fa fn x d st N ps) :
    ∃ fd, FunD K x x (defArgs st) (defBody st) (defScope st) [] [] (He.ga K x) fd ∧ mg x = some (.ref (He.ga K x)) := by
  obtain ⟨fd, F⟩ := c.defs r.df
  exact ⟨fd, F, He.glo_ok X G (c.facts r.gl)⟩
theorem head_of (X : K.In h) (G : h.Ns mainGlobals mg) (c : He.SaysD fa fn K) (hf : ∀ (f : Nat) (x : Str), T.nm f = some x → ∃ d st N ps, defs f = some d ∧ Row T fa fn x d st N ps) (hfree : ∀ x, x ∈ freeNames → He.Fa.free x ∈ fa)
    (hglo : ∀ (i : Nat) (x : Str) (d : D), T.gn i = some x → glo i = some d → ∃ u v, mg x = some u ∧ RelV v u ∧ Dq K (fun _ => none) v d ∧ GK K v) : Head K mg T defs glo where
  fns f x hx := by
    obtain ⟨d, st, N, ps, e, r⟩ := hf f x hx
    obtain ⟨fd, F, hm⟩ := row_fun X G c r
    exact ⟨d, e, ⟨x, st, _, fd, N, ps, F, r.sc, F.bindsN r.bd, hm, r.np, r.ns, r.ck⟩⟩
  free x hx := He.free_ok X G (c.facts (hfree x hx))
  glo := hglo
end
theorem one_at {α : Type} {x y : α} {i : Nat} (h : [x][i]? = some y) : i = 0 ∧ x = y := by
  cases i with
  | zero => exact ⟨rfl, Option.some.inj h⟩
  | succ i => simp at h
theorem scr_rs {K : PySem.W.Frag} {H : Hp} {a : Addr} {ns : List Int} (hS : SqL K H a (ns.map V.int)) : RS K (fun _ => a) H (fun _ => none) [.scr (ns.map PyData.int)] H := by
  refine ⟨fun _ _ h => h, fun a o h => ?_, fun a o h => ?_, fun i c h hc => ?_, fun i j hi hj _ => ?_, fun i xs h => ?_⟩
  · have h : (none : Option HO) = some o := h
    cases h
  · have h : (none : Option HO) = some o := h
    cases h
  · obtain ⟨_, rfl⟩ := one_at h
    cases hc
  · obtain ⟨c, h, hc⟩ := hi
    obtain ⟨_, rfl⟩ := one_at h
    cases hc
  · obtain ⟨_, e⟩ := one_at h
    cases e
    exact ⟨_, hS, dq_of_ints ns⟩
theorem law_sp {K : PySem.W.Frag} {cls : Nat → Addr} {call : Nat → List Val → Sto → R Val} {f : Nat} {H : Hp} {a : Addr} {ns : List Int} (hS : SqL K H a (ns.map V.int)) {st' : Sto} (hc : call f [.ref 0] [.scr (ns.map PyData.int)] = .ok (.d (.bool true)) st') :
    spOf K cls call f [.ref a] H (fun v _ => v = .bl true) fun _ _ _ => False := by
  refine ⟨[.ref 0], [.scr (ns.map PyData.int)], fun _ => a, H, fun _ => none, scr_rs hS, .cons ⟨Nat.zero_lt_one, rfl⟩ .nil, ?_⟩
  rw [hc]
  intro φ' Hf' H' u rs V rv
  cases rv
  rfl
end Ev
set_option Elab.async false
set_option linter.all false
set_option maxRecDepth 100000
/-! Ev21: module constants (tuples of tuples of ints): a head's facts that tell them; the law's end with them. -/
namespace Ev
open PySem PySem.Spec PyProof.Rows L2

mutual
def datB (K : PySem.W.Frag) : D → Value → Bool
  | .none, .none => true
  | .bool b, .bool c => b == c
  | .int i, .int j _ => decide (i = j)
  | .str x, .str y _ => decide (x = y)
  | .tuple ds, .ref a => (match K.lookup a with
    | some ⟨.type c, none, .seq its _, _⟩ => decide (c = "tuple") && (decide (its.size ≤ sizeLine) && datBs K ds its.toList)
    | _ => false)
  | _, _ => false
def datBs (K : PySem.W.Frag) : List D → List Value → Bool
  | [], [] => true
  | d :: ds, u :: us => datB K d u && datBs K ds us
  | _, _ => false
end
mutual
theorem datB_ok {K : PySem.W.Frag} {H : Hp} : ∀ (d : D) (u : Value), datB K d u = true → ∃ v, RelV v u ∧ Dq K H v d ∧ GK K v
  | .none, u, h => by
    cases u with
    | none => exact ⟨.non, rfl, .non, fun _ z => (by cases z)⟩
    | _ => simp [datB] at h
  | .bool b, u, h => by
    cases u with
    | bool c =>
      have e : b = c := by simpa [datB] using h
      subst e
      exact ⟨.bl b, rfl, .bl b, fun _ z => (by cases z)⟩
    | _ => simp [datB] at h
  | .int i, u, h => by
    cases u with
    | int j t =>
      have e : i = j := by simpa [datB] using h
      subst e
      exact ⟨.int i, ⟨t, rfl⟩, .int i, fun _ z => (by cases z)⟩
    | _ => simp [datB] at h
  | .str x, u, h => by
    cases u with
    | str y t =>
      have e : x = y := by simpa [datB] using h
      subst e
      exact ⟨.str x, ⟨t, rfl⟩, .str x, fun _ z => (by cases z)⟩
    | _ => simp [datB] at h
  | .list ds, u, h => by cases u <;> simp [datB] at h
  | .dict ds, u, h => by cases u <;> simp [datB] at h
  | .tuple ds, u, h => by
    cases u with
    | ref a =>
      unfold datB at h
      cases q : K.lookup a with
      | none =>
        rw [q] at h
        cases h
      | some o =>
        obtain ⟨oc, od, dt, osl⟩ := o
        rw [q] at h
        cases oc with
        | type c =>
          cases od with
          | some b => cases dt <;> cases h
          | none =>
          cases dt with
          | seq its n =>
            obtain ⟨h1, h2⟩ := He.ba (show (decide (c = "tuple") && (decide (its.size ≤ sizeLine) && datBs K ds its.toList)) = true from h)
            obtain ⟨h3, h4⟩ := He.ba h2
            obtain ⟨vs, r, dq⟩ := datBs_ok (H := H) ds its.toList h4
            exact ⟨.ref a, rfl, .tup (.inr ⟨_, its, n, q, congrArg Value.type (of_decide_eq_true h1), rfl, of_decide_eq_true h3, r⟩) dq, fun _ z => by cases z; exact ⟨_, q, congrArg Value.type (of_decide_eq_true h1), rfl⟩⟩
          | _ => cases h
        | _ => cases od <;> cases dt <;> cases h
    | _ => simp [datB] at h
theorem datBs_ok {K : PySem.W.Frag} {H : Hp} : ∀ (ds : List D) (us : List Value), datBs K ds us = true → ∃ vs, Vals vs us ∧ DqAll K H vs ds
  | [], [], _ => ⟨[], .nil, .nil⟩
  | [], _ :: _, h => by simp [datBs] at h
  | _ :: _, [], h => by simp [datBs] at h
  | d :: ds, u :: us, h => by
    obtain ⟨h1, h2⟩ := He.ba (show (datB K d u && datBs K ds us) = true from by unfold datBs at h; exact h)
    obtain ⟨v, r, q, _⟩ := datB_ok (H := H) d u h1
    obtain ⟨vs, rs, qs⟩ := datBs_ok (H := H) ds us h2
    exact ⟨v :: vs, .cons r rs, .cons q qs⟩
end
/-- the module's name x is this data -/
def datN (K : PySem.W.Frag) (p : Str × D) : Bool := match PySem.W.nsIn K mainGlobals p.1 with
  | some (some u) => datB K p.2 u
  | _ => false
theorem datN_ok {K : PySem.W.Frag} {h : Heap} {mg : Str → Option Value} {x : Str} {d : D} {H : Hp} (X : K.In h) (G : h.Ns mainGlobals mg) (c : datN K (x, d) = true) : ∃ u v, mg x = some u ∧ RelV v u ∧ Dq K H v d ∧ GK K v := by
  unfold datN at c
  cases e : PySem.W.nsIn K mainGlobals x with
  | none =>
    rw [e] at c
    cases c
  | some o =>
    rw [e] at c
    cases o with
    | none => cases c
    | some u =>
      obtain ⟨v, r, q⟩ := datB_ok (H := H) d u c
      exact ⟨u, v, PySem.W.mg_of X G e, r, q⟩
/-! ### a hook that tells them -/
def obsE (fa : List He.Fa) (fn : List He.DefD) (da : List (Str × D)) (K : PySem.W.Frag) : He.AlD × Bool := (He.obsD fa fn K, da.all (datN K))
def obsEG (n : Nat) (fa : List He.Fa) (fn : List He.DefD) (da : List (Str × D)) (g : Addr → Option Obj) : He.AlD × Bool := obsE fa fn da (He.frG g (He.asD g n))
def hookE (n : Nat) (fa : List He.Fa) (fn : List He.DefD) (da : List (Str × D)) : PySem.W.Hook where
  α := He.AlD × Bool
  obs := fun s => obsEG n fa fn da s.heap.get?
  val := fun _ => (He.valD fn, true)
  says := fun _ h => ∃ K : PySem.W.Frag, K.In h ∧ He.SaysD fa fn K ∧ da.all (datN K) = true
  of := fun _ _ e => ⟨_, He.frG_in, congrArg Prod.fst e, congrArg Prod.snd e⟩
  keeps := fun _ _ _ ⟨K, hK, c⟩ k => ⟨K, PySem.W.Frag.In.keeps hK k, c⟩
theorem obsEG_eq {n : Nat} {fa : List He.Fa} {fn : List He.DefD} {da : List (Str × D)} {g : Addr → Option Obj} {s : Shared} (h : ∀ a, g a = s.heap.get? a) : obsEG n fa fn da g = (hookE n fa fn da).obs s := by
  have e : g = s.heap.get? := funext h
  rw [e] <;> rfl
theorem law_walkE {l : PySem.W.OpenLaw} {q : Program} {loose : List Str} {XP : (Str → Option Value) → Heap → Prop} {d : DefRec} {m : Nat} {fa : List He.Fa} {fn : List He.DefD} {da : List (Str × D)} {T : Tx} {defs : Nat → Option Def} {glo : Nat → Option D} {k f : Nat} {dl : Def} {stl : Stmt} {Nl : List Str} {x : Str}
    (hn : l.most = some 63) (hdf : d.params.defaults = []) (hr : Room (k + 1) callerA) (hnm : d.name = ("law" : Str)) 
    (hf : ∀ (f : Nat) (x : Str), T.nm f = some x → ∃ d st N ps, defs f = some d ∧ Row T fa fn x d st N ps) (hdf' : defs f = some dl) (hfl : Row T fa fn ("law" : Str) dl stl Nl [x]) (hfree : ∀ x, x ∈ freeNames → He.Fa.free x ∈ fa)
    (hglo : ∀ (i : Nat) (x : Str) (d : D), T.gn i = some x → glo i = some d → (x, d) ∈ da)
    (law : ∀ ns : List Int, ns.length ≤ 63 → (∀ z ∈ ns, Builtin.Int.intBits z ≤ 1048576) → ∃ st', calls defs glo (k + 1) f [.ref 0] [.scr (ns.map PyData.int)] = .ok (.d (.bool true)) st') :
    PySem.W.WalkO q loose XP (hookE m fa fn da).says l.row.toRowW d [] (fun f vs => PySem.call f vs) := by
  refine walk_ofG (k := k + 1) (x := x) hn (by decide) hdf hr fun w mg fa' h Y G hmg => ?_
  obtain ⟨K, KX, c, cd⟩ := Y
  have hd := head_of KX G c hf hfree fun i x d h1 h2 => datN_ok KX G (List.all_eq_true.mp cd _ (hglo i x d h1 h2))
  rw [hnm] at hmg
  obtain ⟨fd, F, hm⟩ := row_fun KX G c hfl
  have e1 := hmg.symm.trans hm
  cases e1
  refine ⟨K, fd, spOf K (fun _ => 0) (calls defs glo (k + 1)) f, KX, fun s u => F.bindsA hfl.bd s [u] rfl, fun H a ns hl hb _ hS => ?_, fun base _ _ => fn_row hd (fns_ok hd k) hdf' F hfl.sc hfl.np hfl.ns hfl.ck base⟩
  obtain ⟨st', e⟩ := law ns hl hb
  exact law_sp hS e
end Ev
set_option Elab.async false
set_option linter.all false
set_option maxRecDepth 100000
/-! TabG: the resolved forms of the functions (printed by gen.py). -/
namespace Ev
open PySem PySem.Spec PyProof.Rows L2

/-- keeps(saying, placing): 0:saying 1:placing 2:ties 3:head 4:a 5:b -/
def b0 : Ss := (.cons (.unp (.cons (.name 2) (.cons (.name 3) .nil)) (.loc 0)) (.cons (.ite (.bi false .any (.cons (.lc false (.cmp .ne (.idx (.loc 1) (.loc 4)) (.idx (.loc 1) (.loc 5))) [4, 5] (.cons (.name 4) (.cons (.name 5) .nil)) (.ex (.loc 2)) .none) .nil)) (.cons (.ret (.con (.bool true))) .nil) .nil) (.cons (.ret (.and (.isNN (.loc 3)) (.cmp .le (.idx (.loc 1) (.idx (.loc 3) (.con (.int 0)))) (.idx (.loc 1) (.idx (.loc 3) (.con (.int 1))))))) .nil)))
def d0 : Def := ⟨2, 6, b0, true⟩
/-- broken(book, placing): 0:book 1:placing 2:number 3:saying -/
def b1 : Ss := (.cons (.ret (.lc true (.loc 2) [2, 3] (.cons (.name 2) (.cons (.name 3) .nil)) (.enm (.idx (.loc 0) (.con (.int 1)))) (.some (.not (.call 0 (.cons (.loc 3) (.cons (.loc 1) .nil))))))) .nil)
def d1 : Def := ⟨2, 4, b1, false⟩
/-- first_broken(book, placing): 0:book 1:placing 2:number 3:saying -/
def b2 : Ss := (.cons (.loop (.cons (.name 2) (.cons (.name 3) .nil)) (.enm (.idx (.loc 0) (.con (.int 1)))) (.cons (.ite (.not (.call 0 (.cons (.loc 3) (.cons (.loc 1) .nil)))) (.cons (.ret (.loc 2)) .nil) .nil) .nil)) (.cons (.ret (.con .none)) .nil))
def d2 : Def := ⟨2, 4, b2, true⟩
/-- keeps_book(book, placing): 0:book 1:placing -/
def b3 : Ss := (.cons (.ret (.isN (.call 2 (.cons (.loc 0) (.cons (.loc 1) .nil))))) .nil)
def d3 : Def := ⟨2, 2, b3, true⟩
/-- order_of(placing): 0:placing 1:levels 2:level 3:integer -/
def b4 : Ss := (.cons (.set 1 (.dc (.loc 3) (.loc 2) [2, 3] (.cons (.name 2) (.cons (.name 3) .nil)) (.enm (.sset false (.loc 0))) .none)) (.cons (.ret (.bi false .tuple (.cons (.lc false (.idx (.loc 1) (.loc 3)) [3] (.name 3) (.ex (.loc 0)) .none) .nil))) .nil))
def d4 : Def := ⟨1, 4, b4, true⟩
/-- _law_source(script): 0:script 1:mixed 2:cell -/
def b5 : Ss := (.cons (.set 1 (.con (.int 11))) (.cons (.loop (.name 2) (.ex (.loc 0)) (.cons (.set 1 (.bin false .mod (.bi false .int (.cons (.bin false .add (.bin false .add (.bin false .mul (.loc 1) (.con (.int 69069))) (.bin false .mul (.loc 2) (.con (.int 31)))) (.con (.int 5))) .nil)) (.con (.int 2147483629)))) .nil)) (.cons (.ret (.dct [.inr "cells", .inr "left", .inr "mixed", .inr "turn"] (.cons (.rev true (.lc false (.bi false .abs (.cons (.loc 2) .nil)) [2] (.name 2) (.ex (.loc 0)) .none)) (.cons (.con (.int 1)) (.cons (.loc 1) (.cons (.con (.int 0)) .nil)))))) .nil)))
def d5 : Def := ⟨1, 3, b5, false⟩
/-- _law_pick(source, many): 0:source 1:many 2:left 3:mixed -/
def b6 : Ss := (.cons (.whl (.and (.cmp .gt (.loc 1) (.con (.int 1))) (.and (.cmp .lt (.idx (.loc 0) (.con (.str "left"))) (.con (.int 2))) (.cmp .gt (.bi false .len (.cons (.idx (.loc 0) (.con (.str "cells"))) .nil)) (.con (.int 0))))) (.cons (.sub (.loc 0) (.con (.str "left")) (.mt false .pop0 (.idx (.loc 0) (.con (.str "cells"))) .nil)) .nil)) (.cons (.set 2 (.idx (.loc 0) (.con (.str "left")))) (.cons (.ite (.or (.cmp .lt (.loc 1) (.con (.int 2))) (.cmp .gt (.loc 2) (.con (.int 1)))) (.cons (.sub (.loc 0) (.con (.str "left")) (.bin false .fdiv (.loc 2) (.bi false .max2 (.cons (.con (.int 1)) (.cons (.loc 1) .nil))))) (.cons (.ret (.bin false .mod (.bi false .int (.cons (.loc 2) .nil)) (.bi false .max2 (.cons (.con (.int 1)) (.cons (.loc 1) .nil))))) .nil)) .nil) (.cons (.sub (.loc 0) (.con (.str "turn")) (.bin false .add (.idx (.loc 0) (.con (.str "turn"))) (.con (.int 1)))) (.cons (.set 3 (.bin false .mod (.bi false .int (.cons (.bin false .add (.idx (.loc 0) (.con (.str "mixed"))) (.bin false .mul (.idx (.loc 0) (.con (.str "turn"))) (.con (.int 104729)))) .nil)) (.con (.int 998244353)))) (.cons (.set 3 (.bin false .mod (.bi false .int (.cons (.bin false .add (.bin false .mul (.loc 3) (.loc 3)) (.bin false .mul (.idx (.loc 0) (.con (.str "turn"))) (.con (.int 17)))) .nil)) (.con (.int 2147483647)))) (.cons (.sub (.loc 0) (.con (.str "mixed")) (.loc 3)) (.cons (.ret (.bin false .mod (.bi false .int (.cons (.bin false .fdiv (.loc 3) (.con (.int 16))) .nil)) (.loc 1))) .nil))))))))
def d6 : Def := ⟨2, 4, b6, false⟩
/-- _law_of(source, some): 0:source 1:some -/
def b7 : Ss := (.cons (.ret (.idx (.loc 1) (.call 6 (.cons (.loc 0) (.cons (.bi false .len (.cons (.loc 1) .nil)) .nil))))) .nil)
def d7 : Def := ⟨2, 2, b7, false⟩
/-- _law_mixed(source, things): 0:source 1:things 2:rest 3:lap -/
def b8 : Ss := (.cons (.set 2 (.bi true .list (.cons (.loc 1) .nil))) (.cons (.ret (.lc false (.mt false .pop1 (.loc 2) (.cons (.call 6 (.cons (.loc 0) (.cons (.bi false .len (.cons (.loc 2) .nil)) .nil))) .nil)) [3] (.name 3) (.rng1 (.bi false .len (.cons (.loc 2) .nil))) .none)) .nil))
def d8 : Def := ⟨2, 4, b8, false⟩
/-- _law_order_of(placing): 0:placing 1:levels 2:one -/
def b9 : Ss := (.cons (.set 1 (.sset false (.loc 0))) (.cons (.ret (.bi false .tuple (.cons (.lc false (.mt false .index (.loc 1) (.cons (.loc 2) .nil)) [2] (.name 2) (.ex (.loc 0)) .none) .nil))) .nil))
def d9 : Def := ⟨1, 3, b9, true⟩
/-- _law_keeps(saying, placing): 0:saying 1:placing 2:ties 3:head 4:a 5:b -/
def b10 : Ss := (.cons (.unp (.cons (.name 2) (.cons (.name 3) .nil)) (.loc 0)) (.cons (.ite (.cmp .ne (.lc false (.con (.int 1)) [4, 5] (.cons (.name 4) (.cons (.name 5) .nil)) (.ex (.loc 2)) (.some (.cmp .ne (.idx (.loc 1) (.loc 4)) (.idx (.loc 1) (.loc 5))))) (.lst false .nil)) (.cons (.ret (.con (.bool true))) .nil) .nil) (.cons (.ret (.and (.isNN (.loc 3)) (.cmp .le (.idx (.loc 1) (.idx (.loc 3) (.con (.int 0)))) (.idx (.loc 1) (.idx (.loc 3) (.con (.int 1))))))) .nil)))
def d10 : Def := ⟨2, 6, b10, true⟩
/-- _law_draw_saying(source, n, most): 0:source 1:n 2:most 3:ties 4:head 5:lap 6:tie -/
def b11 : Ss := (.cons (.par [3, 4] (.cons (.lst false .nil) (.cons (.slc false (.call 8 (.cons (.loc 0) (.cons (.lrng false (.rng1 (.loc 1))) .nil))) .none (.some (.con (.int 2)))) .nil))) (.cons (.loop (.name 5) (.rng1 (.call 7 (.cons (.loc 0) (.cons (.lst false (.cons (.con (.int 0)) (.cons (.con (.int 0)) (.cons (.con (.int 1)) (.cons (.call 6 (.cons (.loc 0) (.cons (.bin false .add (.loc 2) (.con (.int 1))) .nil))) .nil))))) .nil)))) (.cons (.set 6 (.bi false .tuple (.cons (.bi false .sorted (.cons (.slc false (.call 8 (.cons (.loc 0) (.cons (.lrng false (.rng1 (.loc 1))) .nil))) .none (.some (.con (.int 2)))) .nil)) .nil))) (.cons (.set 3 (.bin false .add (.loc 3) (.bin false .mul (.lst false (.cons (.loc 6) .nil)) (.bi false .int (.cons (.cmp .nin (.loc 6) (.loc 3)) .nil))))) .nil))) (.cons (.ret (.tup (.cons (.bi false .tuple (.cons (.bi false .sorted (.cons (.loc 3) .nil)) .nil)) (.cons (.ite (.cmp .gt (.call 6 (.cons (.loc 0) (.cons (.con (.int 6)) .nil))) (.con (.int 0))) (.bi false .tuple (.cons (.loc 4) .nil)) (.con .none)) .nil)))) .nil)))
def d11 : Def := ⟨3, 7, b11, false⟩
/-- _law_draw_placing(source, n): 0:source 1:n 2:most 3:moment -/
def b12 : Ss := (.cons (.set 2 (.call 7 (.cons (.loc 0) (.cons (.lst false (.cons (.con (.int 2)) (.cons (.con (.int 3)) (.cons (.bin false .add (.loc 1) (.con (.int 1))) (.cons (.bin false .pow (.con (.int 10)) (.con (.int 8))) .nil))))) .nil)))) (.cons (.ret (.bi false .tuple (.cons (.lc false (.bin false .sub (.call 6 (.cons (.loc 0) (.cons (.loc 2) .nil))) (.bin false .fdiv (.loc 2) (.con (.int 3)))) [3] (.name 3) (.rng1 (.loc 1)) .none) .nil))) .nil))
def d12 : Def := ⟨2, 4, b12, false⟩
/-- _law_draw_book(source, n, many): 0:source 1:n 2:many 3:placing 4:sayings 5:way 6:lap 7:saying 8:ties 9:head 10:first 11:ring 12:late 13:a 14:b -/
def b13 : Ss := (.cons (.par [3, 4, 5] (.cons (.call 12 (.cons (.loc 0) (.cons (.loc 1) .nil))) (.cons (.lst true .nil) (.cons (.call 6 (.cons (.loc 0) (.cons (.con (.int 4)) .nil))) .nil)))) (.cons (.loop (.name 6) (.rng1 (.call 6 (.cons (.loc 0) (.cons (.bin false .add (.loc 2) (.con (.int 1))) .nil)))) (.cons (.set 7 (.call 11 (.cons (.loc 0) (.cons (.loc 1) (.cons (.con (.int 2)) .nil))))) (.cons (.ite (.and (.cmp .lt (.loc 5) (.con (.int 2))) (.not (.call 10 (.cons (.loc 7) (.cons (.loc 3) .nil))))) (.cons (.unp (.cons (.name 8) (.cons (.name 9) .nil)) (.loc 7)) (.cons (.set 10 (.ite (.cmp .le (.idx (.loc 3) (.con (.int 0))) (.idx (.loc 3) (.con (.int 1)))) (.tup (.cons (.con (.int 0)) (.cons (.con (.int 1)) .nil))) (.tup (.cons (.con (.int 1)) (.cons (.con (.int 0)) .nil))))) (.cons (.set 7 (.tup (.cons (.loc 8) (.cons (.ite (.isNN (.loc 9)) (.rev false (.loc 9)) (.loc 10)) .nil)))) .nil))) .nil) (.cons (.expr (.mt false .append (.loc 4) (.cons (.loc 7) .nil))) .nil)))) (.cons (.frz 4) (.cons (.ite (.cmp .eq (.loc 5) (.con (.int 3))) (.cons (.set 11 (.slc false (.call 8 (.cons (.loc 0) (.cons (.lrng false (.rng1 (.loc 1))) .nil))) .none (.some (.bin false .add (.con (.int 2)) (.call 6 (.cons (.loc 0) (.cons (.bin false .sub (.loc 1) (.con (.int 1))) .nil))))))) (.cons (.set 12 (.bin false .add (.lc false (.tup (.cons (.tup .nil) (.cons (.tup (.cons (.loc 13) (.cons (.loc 14) .nil))) .nil))) [13, 14] (.cons (.name 13) (.cons (.name 14) .nil)) (.zip false (.loc 11) (.bin false .add (.slc false (.loc 11) (.some (.con (.int 1))) .none) (.slc false (.loc 11) .none (.some (.con (.int 1)))))) .none) (.lst false (.cons (.tup (.cons (.tup (.cons (.bi false .tuple (.cons (.bi false .sorted (.cons (.slc false (.loc 11) .none (.some (.con (.int 2)))) .nil)) .nil)) .nil)) (.cons (.con .none) .nil))) .nil)))) (.cons (.set 4 (.call 8 (.cons (.loc 0) (.cons (.bin false .add (.slc false (.loc 4) .none (.some (.bi false .max2 (.cons (.con (.int 0)) (.cons (.bin false .sub (.loc 2) (.bi false .len (.cons (.loc 12) .nil))) .nil))))) (.loc 12)) .nil)))) .nil))) .nil) (.cons (.ret (.tup (.cons (.loc 1) (.cons (.bi false .tuple (.cons (.loc 4) .nil)) .nil)))) .nil)))))
def d13 : Def := ⟨3, 15, b13, false⟩
/-- law(script): 0:script 1:source 2:lap 3:n 4:book 5:placing 6:wide 7:look 8:kept 9:due 10:k 11:told 12:saying -/
def b14 : Ss := (.cons (.set 1 (.call 5 (.cons (.loc 0) .nil))) (.cons (.loop (.name 2) (.rng1 (.con (.int 9))) (.cons (.set 3 (.bin false .add (.con (.int 2)) (.call 6 (.cons (.loc 1) (.cons (.con (.int 11)) .nil))))) (.cons (.par [4, 5] (.cons (.call 13 (.cons (.loc 1) (.cons (.loc 3) (.cons (.con (.int 9)) .nil)))) (.cons (.call 12 (.cons (.loc 1) (.cons (.loc 3) .nil))) .nil))) (.cons (.set 6 (.bi false .tuple (.cons (.lc false (.call 11 (.cons (.loc 1) (.cons (.loc 3) (.cons (.con (.int 6)) .nil)))) [7] (.name 7) (.rng1 (.bin false .fdiv (.loc 2) (.con (.int 3)))) .none) .nil))) (.cons (.set 4 (.tup (.cons (.loc 3) (.cons (.bin false .add (.idx (.loc 4) (.con (.int 1))) (.loc 6)) .nil)))) (.cons (.ite (.cmp .eq (.call 6 (.cons (.loc 1) (.cons (.con (.int 2)) .nil))) (.con (.int 0))) (.cons (.set 5 (.bin false .add (.bi false .tuple (.cons (.bin false .mul (.lst false (.cons (.call 7 (.cons (.loc 1) (.cons (.lst false (.cons (.con (.int 0)) (.cons (.con (.int 1)) (.cons (.bin false .pow (.con (.int 10)) (.con (.int 30))) (.cons (.bin false .sub (.con (.int 0)) (.bin false .pow (.con (.int 10)) (.con (.int 30)))) .nil))))) .nil))) .nil)) (.bin false .fdiv (.loc 3) (.con (.int 2)))) .nil)) (.slc false (.loc 5) (.some (.bin false .fdiv (.loc 3) (.con (.int 2)))) .none))) .nil) .nil) (.cons (.set 8 (.bi false .repr (.cons (.lst false (.cons (.loc 4) (.cons (.loc 5) .nil))) .nil))) (.cons (.set 9 (.lc false (.loc 10) [10] (.name 10) (.rng1 (.bi false .len (.cons (.idx (.loc 4) (.con (.int 1))) .nil))) (.some (.not (.call 10 (.cons (.idx (.idx (.loc 4) (.con (.int 1))) (.loc 10)) (.cons (.loc 5) .nil))))))) (.cons (.set 11 (.lst true (.cons (.call 1 (.cons (.loc 4) (.cons (.loc 5) .nil))) (.cons (.call 2 (.cons (.loc 4) (.cons (.loc 5) .nil))) (.cons (.call 3 (.cons (.loc 4) (.cons (.loc 5) .nil))) (.cons (.call 4 (.cons (.loc 5) .nil)) .nil)))))) (.cons (.ite (.cmp .ne (.bi false .repr (.cons (.loc 11) .nil)) (.bi false .repr (.cons (.lst false (.cons (.loc 9) (.cons (.ite (.cmp .ne (.loc 9) (.lst false .nil)) (.idx (.loc 9) (.con (.int 0))) (.con .none)) (.cons (.cmp .eq (.loc 9) (.lst false .nil)) (.cons (.call 9 (.cons (.loc 5) .nil)) .nil))))) .nil))) (.cons (.ret (.con (.bool false))) .nil) .nil) (.cons (.expr (.mt false .append (.idx (.loc 11) (.con (.int 0))) (.cons (.con .none) .nil))) (.cons (.ite (.or (.cmp .ne (.bi false .repr (.cons (.call 1 (.cons (.loc 4) (.cons (.loc 5) .nil))) .nil)) (.bi false .repr (.cons (.loc 9) .nil))) (.cmp .ne (.bi false .repr (.cons (.lst false (.cons (.loc 4) (.cons (.loc 5) .nil))) .nil)) (.loc 8))) (.cons (.ret (.con (.bool false))) .nil) .nil) (.cons (.loop (.name 12) (.ex (.idx (.loc 4) (.con (.int 1)))) (.cons (.ite (.cmp .ne (.bi false .repr (.cons (.call 0 (.cons (.loc 12) (.cons (.loc 5) .nil))) .nil)) (.bi false .repr (.cons (.call 10 (.cons (.loc 12) (.cons (.loc 5) .nil))) .nil))) (.cons (.ret (.con (.bool false))) .nil) .nil) (.cons (.ite (.cmp .ne (.call 0 (.cons (.loc 12) (.cons (.call 9 (.cons (.loc 5) .nil)) .nil))) (.call 0 (.cons (.loc 12) (.cons (.loc 5) .nil)))) (.cons (.ret (.con (.bool false))) .nil) .nil) .nil))) .nil))))))))))))) (.cons (.set 11 (.lst true (.cons (.call 4 (.cons (.tup (.cons (.con (.int 7)) (.cons (.neg (.con (.int 2))) (.cons (.con (.int 7)) (.cons (.con (.int 30)) .nil))))) .nil)) (.cons (.call 4 (.cons (.tup .nil) .nil)) (.cons (.call 3 (.cons (.tup (.cons (.con (.int 0)) (.cons (.tup .nil) .nil))) (.cons (.tup .nil) .nil))) (.cons (.call 0 (.cons (.tup (.cons (.tup (.cons (.tup (.cons (.con (.int 0)) (.cons (.con (.int 1)) .nil))) .nil)) (.cons (.con .none) .nil))) (.cons (.tup (.cons (.con (.int 3)) (.cons (.con (.int 3)) .nil))) .nil))) .nil)))))) (.cons (.set 11 (.bin true .add (.loc 11) (.lst false (.cons (.call 0 (.cons (.tup (.cons (.tup (.cons (.tup (.cons (.con (.int 0)) (.cons (.con (.int 1)) .nil))) .nil)) (.cons (.con .none) .nil))) (.cons (.tup (.cons (.con (.int 3)) (.cons (.con (.int 4)) .nil))) .nil))) (.cons (.call 0 (.cons (.tup (.cons (.tup .nil) (.cons (.tup (.cons (.con (.int 1)) (.cons (.con (.int 0)) .nil))) .nil))) (.cons (.tup (.cons (.con (.int 5)) (.cons (.con (.int 5)) .nil))) .nil))) .nil))))) (.cons (.expr (.mt false .append (.loc 11) (.cons (.call 2 (.cons (.tup (.cons (.con (.int 1)) (.cons (.tup (.cons (.tup (.cons (.tup .nil) (.cons (.con .none) .nil))) .nil)) .nil))) (.cons (.tup (.cons (.con (.int 9)) .nil)) .nil))) .nil))) (.cons (.frz 11) (.cons (.ret (.cmp .eq (.bi false .repr (.cons (.loc 11) .nil)) (.bi false .repr (.cons (.lst false (.cons (.tup (.cons (.con (.int 1)) (.cons (.con (.int 0)) (.cons (.con (.int 1)) (.cons (.con (.int 2)) .nil))))) (.cons (.tup .nil) (.cons (.con (.bool true)) (.cons (.con (.bool false)) (.cons (.con (.bool true)) (.cons (.con (.bool true)) (.cons (.con (.int 0)) .nil)))))))) .nil)))) .nil)))))))
def d14 : Def := ⟨1, 13, b14, false⟩
/-- turned(saying): 0:saying 1:ties 2:head -/
def b15 : Ss := (.cons (.unp (.cons (.name 1) (.cons (.name 2) .nil)) (.loc 0)) (.cons (.ret (.tup (.cons (.loc 1) (.cons (.ite (.isN (.loc 2)) (.con .none) (.tup (.cons (.idx (.loc 2) (.con (.int 1))) (.cons (.idx (.loc 2) (.con (.int 0))) .nil)))) .nil)))) .nil))
def d15 : Def := ⟨1, 3, b15, true⟩
/-- mirrored(placing): 0:placing 1:integer -/
def b16 : Ss := (.cons (.ret (.bi false .tuple (.cons (.lc false (.bin false .sub (.con (.int 0)) (.loc 1)) [1] (.name 1) (.ex (.loc 0)) .none) .nil))) .nil)
def d16 : Def := ⟨1, 2, b16, true⟩
/-- turned_book(book): 0:book 1:saying -/
def b17 : Ss := (.cons (.ret (.tup (.cons (.idx (.loc 0) (.con (.int 0))) (.cons (.bi false .tuple (.cons (.lc false (.call 15 (.cons (.loc 1) .nil)) [1] (.name 1) (.ex (.idx (.loc 0) (.con (.int 1)))) .none) .nil)) .nil)))) .nil)
def d17 : Def := ⟨1, 2, b17, true⟩
/-- law(script): 0:script 1:source 2:lap 3:n 4:book 5:placing 6:kept 7:due 8:ties 9:head 10:other 11:one 12:told 13:saying 14:k -/
def b18 : Ss := (.cons (.set 1 (.call 5 (.cons (.loc 0) .nil))) (.cons (.loop (.name 2) (.rng1 (.con (.int 9))) (.cons (.set 3 (.bin false .add (.con (.int 2)) (.call 6 (.cons (.loc 1) (.cons (.con (.int 8)) .nil))))) (.cons (.par [4, 5] (.cons (.call 13 (.cons (.loc 1) (.cons (.loc 3) (.cons (.con (.int 8)) .nil)))) (.cons (.call 12 (.cons (.loc 1) (.cons (.loc 3) .nil))) .nil))) (.cons (.set 6 (.bi false .repr (.cons (.lst false (.cons (.loc 4) (.cons (.loc 5) .nil))) .nil))) (.cons (.set 7 (.bi false .tuple (.cons (.lc false (.tup (.cons (.loc 8) (.cons (.ite (.isN (.loc 9)) (.con .none) (.tup (.cons (.idx (.loc 9) (.con (.int 1))) (.cons (.idx (.loc 9) (.con (.int 0))) .nil)))) .nil))) [8, 9] (.cons (.name 8) (.cons (.name 9) .nil)) (.ex (.idx (.loc 4) (.con (.int 1)))) .none) .nil))) (.cons (.set 10 (.bi false .tuple (.cons (.lc false (.bin false .sub (.con (.int 0)) (.loc 11)) [11] (.name 11) (.ex (.loc 5)) .none) .nil))) (.cons (.set 12 (.lst true (.cons (.lc false (.call 15 (.cons (.loc 13) .nil)) [13] (.name 13) (.ex (.idx (.loc 4) (.con (.int 1)))) .none) (.cons (.call 17 (.cons (.loc 4) .nil)) (.cons (.call 16 (.cons (.loc 5) .nil)) .nil))))) (.cons (.expr (.mt false .append (.loc 12) (.cons (.call 17 (.cons (.call 17 (.cons (.loc 4) .nil)) .nil)) .nil))) (.cons (.frz 12) (.cons (.ite (.or (.cmp .ne (.bi false .repr (.cons (.loc 12) .nil)) (.bi false .repr (.cons (.lst false (.cons (.bi false .list (.cons (.loc 7) .nil)) (.cons (.tup (.cons (.loc 3) (.cons (.loc 7) .nil))) (.cons (.loc 10) (.cons (.loc 4) .nil))))) .nil))) (.cmp .ne (.bi false .repr (.cons (.lst false (.cons (.loc 4) (.cons (.loc 5) .nil))) .nil)) (.loc 6))) (.cons (.ret (.con (.bool false))) .nil) .nil) (.cons (.ite (.cmp .ne (.bi false .repr (.cons (.call 1 (.cons (.tup (.cons (.loc 3) (.cons (.loc 7) .nil))) (.cons (.loc 5) .nil))) .nil)) (.bi false .repr (.cons (.lc false (.loc 14) [14] (.name 14) (.rng1 (.bi false .len (.cons (.loc 7) .nil))) (.some (.not (.call 10 (.cons (.idx (.idx (.loc 4) (.con (.int 1))) (.loc 14)) (.cons (.loc 10) .nil)))))) .nil))) (.cons (.ret (.con (.bool false))) .nil) .nil) (.cons (.loop (.name 13) (.ex (.idx (.loc 4) (.con (.int 1)))) (.cons (.ite (.cmp .ne (.bi false .repr (.cons (.call 0 (.cons (.call 15 (.cons (.loc 13) .nil)) (.cons (.loc 5) .nil))) .nil)) (.bi false .repr (.cons (.call 10 (.cons (.loc 13) (.cons (.loc 10) .nil))) .nil))) (.cons (.ret (.con (.bool false))) .nil) .nil) .nil)) .nil)))))))))))) (.cons (.set 12 (.lst true (.cons (.call 15 (.cons (.tup (.cons (.tup (.cons (.tup (.cons (.con (.int 0)) (.cons (.con (.int 1)) .nil))) .nil)) (.cons (.tup (.cons (.con (.int 2)) (.cons (.con (.int 0)) .nil))) .nil))) .nil)) (.cons (.call 15 (.cons (.tup (.cons (.tup (.cons (.tup (.cons (.con (.int 0)) (.cons (.con (.int 1)) .nil))) .nil)) (.cons (.con .none) .nil))) .nil)) (.cons (.call 16 (.cons (.tup (.cons (.con (.int 3)) (.cons (.neg (.con (.int 1))) (.cons (.con (.int 0)) .nil)))) .nil)) (.cons (.call 16 (.cons (.tup .nil) .nil)) .nil)))))) (.cons (.expr (.mt false .append (.loc 12) (.cons (.call 17 (.cons (.tup (.cons (.con (.int 4)) (.cons (.tup .nil) .nil))) .nil)) .nil))) (.cons (.frz 12) (.cons (.ret (.cmp .eq (.bi false .repr (.cons (.loc 12) .nil)) (.bi false .repr (.cons (.lst false (.cons (.tup (.cons (.tup (.cons (.tup (.cons (.con (.int 0)) (.cons (.con (.int 1)) .nil))) .nil)) (.cons (.tup (.cons (.con (.int 0)) (.cons (.con (.int 2)) .nil))) .nil))) (.cons (.tup (.cons (.tup (.cons (.tup (.cons (.con (.int 0)) (.cons (.con (.int 1)) .nil))) .nil)) (.cons (.con .none) .nil))) (.cons (.tup (.cons (.neg (.con (.int 3))) (.cons (.con (.int 1)) (.cons (.con (.int 0)) .nil)))) (.cons (.tup .nil) (.cons (.tup (.cons (.con (.int 4)) (.cons (.tup .nil) .nil))) .nil)))))) .nil)))) .nil))))))
def d18 : Def := ⟨1, 15, b18, false⟩
/-- renamed(saying, names): 0:saying 1:names 2:ties 3:head 4:late 5:a 6:b -/
def b19 : Ss := (.cons (.unp (.cons (.name 2) (.cons (.name 3) .nil)) (.loc 0)) (.cons (.set 4 (.bi false .sorted (.cons (.lc false (.bi false .tuple (.cons (.bi false .sorted (.cons (.lst false (.cons (.idx (.loc 1) (.loc 5)) (.cons (.idx (.loc 1) (.loc 6)) .nil))) .nil)) .nil)) [5, 6] (.cons (.name 5) (.cons (.name 6) .nil)) (.ex (.loc 2)) .none) .nil))) (.cons (.ret (.tup (.cons (.bi false .tuple (.cons (.loc 4) .nil)) (.cons (.ite (.isN (.loc 3)) (.con .none) (.tup (.cons (.idx (.loc 1) (.idx (.loc 3) (.con (.int 0)))) (.cons (.idx (.loc 1) (.idx (.loc 3) (.con (.int 1)))) .nil)))) .nil)))) .nil)))
def d19 : Def := ⟨2, 7, b19, true⟩
/-- renamed_book(book, n, names): 0:book 1:n 2:names 3:saying -/
def b20 : Ss := (.cons (.ret (.tup (.cons (.loc 1) (.cons (.bi false .tuple (.cons (.lc false (.call 19 (.cons (.loc 3) (.cons (.loc 2) .nil))) [3] (.name 3) (.ex (.idx (.loc 0) (.con (.int 1)))) .none) .nil)) .nil)))) .nil)
def d20 : Def := ⟨3, 4, b20, true⟩
/-- beside(one, other): 0:one 1:other 2:whole 3:late -/
def b21 : Ss := (.cons (.set 2 (.bin false .add (.idx (.loc 0) (.con (.int 0))) (.idx (.loc 1) (.con (.int 0))))) (.cons (.set 3 (.call 20 (.cons (.loc 1) (.cons (.loc 2) (.cons (.bi false .tuple (.cons (.lrng false (.rng2 (.idx (.loc 0) (.con (.int 0))) (.loc 2))) .nil)) .nil))))) (.cons (.ret (.tup (.cons (.loc 2) (.cons (.bin false .add (.idx (.loc 0) (.con (.int 1))) (.idx (.loc 3) (.con (.int 1)))) .nil)))) .nil)))
def d21 : Def := ⟨2, 4, b21, true⟩
/-- together(one, other): 0:one 1:other -/
def b22 : Ss := (.cons (.ret (.tup (.cons (.idx (.loc 0) (.con (.int 0))) (.cons (.bin false .add (.idx (.loc 0) (.con (.int 1))) (.idx (.loc 1) (.con (.int 1)))) .nil)))) .nil)
def d22 : Def := ⟨2, 2, b22, true⟩
/-- left_of(placing, moments): 0:placing 1:moments 2:moment -/
def b23 : Ss := (.cons (.ret (.bi false .tuple (.cons (.lc false (.idx (.loc 0) (.loc 2)) [2] (.name 2) (.ex (.loc 1)) .none) .nil))) .nil)
def d23 : Def := ⟨2, 3, b23, true⟩
/-- _law_keeps_all(sayings, placing): 0:sayings 1:placing 2:saying -/
def b24 : Ss := (.cons (.ret (.cmp .eq (.lc false (.loc 2) [2] (.name 2) (.ex (.loc 0)) (.some (.not (.call 10 (.cons (.loc 2) (.cons (.loc 1) .nil)))))) (.lst false .nil))) .nil)
def d24 : Def := ⟨2, 3, b24, true⟩
/-- _law_renamed(saying, names): 0:saying 1:names 2:ties 3:head 4:late 5:a 6:b -/
def b25 : Ss := (.cons (.unp (.cons (.name 2) (.cons (.name 3) .nil)) (.loc 0)) (.cons (.set 4 (.lst true .nil)) (.cons (.loop (.cons (.name 5) (.cons (.name 6) .nil)) (.ex (.loc 2)) (.cons (.expr (.mt false .append (.loc 4) (.cons (.ite (.cmp .lt (.idx (.loc 1) (.loc 5)) (.idx (.loc 1) (.loc 6))) (.tup (.cons (.idx (.loc 1) (.loc 5)) (.cons (.idx (.loc 1) (.loc 6)) .nil))) (.tup (.cons (.idx (.loc 1) (.loc 6)) (.cons (.idx (.loc 1) (.loc 5)) .nil)))) .nil))) .nil)) (.cons (.frz 4) (.cons (.ret (.tup (.cons (.bi false .tuple (.cons (.bi false .sorted (.cons (.loc 4) .nil)) .nil)) (.cons (.ite (.isN (.loc 3)) (.con .none) (.tup (.cons (.idx (.loc 1) (.idx (.loc 3) (.con (.int 0)))) (.cons (.idx (.loc 1) (.idx (.loc 3) (.con (.int 1)))) .nil)))) .nil)))) .nil)))))
def d25 : Def := ⟨2, 7, b25, true⟩
/-- law(script): 0:script 1:source 2:lap 3:n 4:more 5:book 6:names 7:look 8:kept 9:due 10:saying 11:told 12:placing 13:some 14:name 15:due_here 16:other 17:same 18:moved 19:is_both -/
def b26 : Ss := (.cons (.set 1 (.call 5 (.cons (.loc 0) .nil))) (.cons (.loop (.name 2) (.rng1 (.con (.int 9))) (.cons (.par [3, 4] (.cons (.bin false .add (.con (.int 2)) (.call 6 (.cons (.loc 1) (.cons (.con (.int 6)) .nil)))) (.cons (.call 6 (.cons (.loc 1) (.cons (.con (.int 9)) .nil))) .nil))) (.cons (.par [5, 6] (.cons (.call 13 (.cons (.loc 1) (.cons (.loc 3) (.cons (.con (.int 7)) .nil)))) (.cons (.bi false .tuple (.cons (.slc false (.call 8 (.cons (.loc 1) (.cons (.lrng false (.rng1 (.bin false .add (.loc 3) (.loc 4)))) .nil))) .none (.some (.loc 3))) .nil)) .nil))) (.cons (.set 5 (.tup (.cons (.loc 3) (.cons (.bin false .add (.idx (.loc 5) (.con (.int 1))) (.bi false .tuple (.cons (.lc false (.call 11 (.cons (.loc 1) (.cons (.loc 3) (.cons (.con (.int 6)) .nil)))) [7] (.name 7) (.rng1 (.bin false .fdiv (.loc 2) (.con (.int 3)))) .none) .nil))) .nil)))) (.cons (.par [8, 9] (.cons (.bi false .repr (.cons (.lst false (.cons (.loc 5) (.cons (.loc 6) .nil))) .nil)) (.cons (.bi false .tuple (.cons (.lc false (.call 25 (.cons (.loc 10) (.cons (.loc 6) .nil))) [10] (.name 10) (.ex (.idx (.loc 5) (.con (.int 1)))) .none) .nil)) .nil))) (.cons (.set 11 (.lst false (.cons (.lc false (.call 19 (.cons (.loc 10) (.cons (.loc 6) .nil))) [10] (.name 10) (.ex (.idx (.loc 5) (.con (.int 1)))) .none) (.cons (.call 20 (.cons (.loc 5) (.cons (.bin false .add (.loc 3) (.loc 4)) (.cons (.loc 6) .nil)))) .nil)))) (.cons (.ite (.or (.cmp .ne (.bi false .repr (.cons (.loc 11) .nil)) (.bi false .repr (.cons (.lst false (.cons (.bi false .list (.cons (.loc 9) .nil)) (.cons (.tup (.cons (.bin false .add (.loc 3) (.loc 4)) (.cons (.loc 9) .nil))) .nil))) .nil))) (.cmp .ne (.bi false .repr (.cons (.lst false (.cons (.loc 5) (.cons (.loc 6) .nil))) .nil)) (.loc 8))) (.cons (.ret (.con (.bool false))) .nil) .nil) (.cons (.loop (.name 7) (.rng1 (.con (.int 3))) (.cons (.set 12 (.call 12 (.cons (.loc 1) (.cons (.bin false .add (.loc 3) (.loc 4)) .nil)))) (.cons (.set 13 (.bi false .tuple (.cons (.lc false (.idx (.loc 12) (.loc 14)) [14] (.name 14) (.ex (.loc 6)) .none) .nil))) (.cons (.set 15 (.lst false (.cons (.call 24 (.cons (.idx (.loc 5) (.con (.int 1))) (.cons (.loc 13) .nil))) (.cons (.loc 13) .nil)))) (.cons (.ite (.cmp .ne (.bi false .repr (.cons (.lst false (.cons (.call 3 (.cons (.tup (.cons (.bin false .add (.loc 3) (.loc 4)) (.cons (.loc 9) .nil))) (.cons (.loc 12) .nil))) (.cons (.call 23 (.cons (.loc 12) (.cons (.loc 6) .nil))) .nil))) .nil)) (.bi false .repr (.cons (.loc 15) .nil))) (.cons (.ret (.con (.bool false))) .nil) .nil) .nil))))) (.cons (.par [16, 17] (.cons (.call 13 (.cons (.loc 1) (.cons (.bin false .add (.con (.int 2)) (.call 6 (.cons (.loc 1) (.cons (.con (.int 4)) .nil)))) (.cons (.con (.int 5)) .nil)))) (.cons (.call 13 (.cons (.loc 1) (.cons (.loc 3) (.cons (.con (.int 6)) .nil)))) .nil))) (.cons (.set 18 (.bi false .tuple (.cons (.lc false (.call 25 (.cons (.loc 10) (.cons (.lrng false (.rng2 (.loc 3) (.bin false .add (.loc 3) (.idx (.loc 16) (.con (.int 0)))))) .nil))) [10] (.name 10) (.ex (.idx (.loc 16) (.con (.int 1)))) .none) .nil))) (.cons (.set 11 (.lst false (.cons (.call 21 (.cons (.loc 5) (.cons (.loc 16) .nil))) (.cons (.call 22 (.cons (.loc 5) (.cons (.loc 17) .nil))) (.cons (.call 21 (.cons (.loc 5) (.cons (.tup (.cons (.con (.int 0)) (.cons (.tup .nil) .nil))) .nil))) (.cons (.call 21 (.cons (.tup (.cons (.con (.int 0)) (.cons (.tup .nil) .nil))) (.cons (.loc 5) .nil))) .nil)))))) (.cons (.ite (.cmp .ne (.bi false .repr (.cons (.loc 11) .nil)) (.bi false .repr (.cons (.lst false (.cons (.tup (.cons (.bin false .add (.loc 3) (.idx (.loc 16) (.con (.int 0)))) (.cons (.bin false .add (.idx (.loc 5) (.con (.int 1))) (.loc 18)) .nil))) (.cons (.tup (.cons (.loc 3) (.cons (.bin false .add (.idx (.loc 5) (.con (.int 1))) (.idx (.loc 17) (.con (.int 1)))) .nil))) (.cons (.loc 5) (.cons (.loc 5) .nil))))) .nil))) (.cons (.ret (.con (.bool false))) .nil) .nil) (.cons (.loop (.name 7) (.rng1 (.con (.int 3))) (.cons (.set 12 (.call 12 (.cons (.loc 1) (.cons (.bin false .add (.loc 3) (.idx (.loc 16) (.con (.int 0)))) .nil)))) (.cons (.set 19 (.and (.call 24 (.cons (.idx (.loc 5) (.con (.int 1))) (.cons (.slc false (.loc 12) .none (.some (.loc 3))) .nil))) (.call 24 (.cons (.idx (.loc 16) (.con (.int 1))) (.cons (.slc false (.loc 12) (.some (.loc 3)) .none) .nil))))) (.cons (.ite (.cmp .ne (.bi false .repr (.cons (.call 3 (.cons (.idx (.loc 11) (.con (.int 0))) (.cons (.loc 12) .nil))) .nil)) (.bi false .repr (.cons (.loc 19) .nil))) (.cons (.ret (.con (.bool false))) .nil) .nil) (.cons (.set 19 (.call 24 (.cons (.bin false .add (.idx (.loc 5) (.con (.int 1))) (.idx (.loc 17) (.con (.int 1)))) (.cons (.slc false (.loc 12) .none (.some (.loc 3))) .nil)))) (.cons (.ite (.cmp .ne (.bi false .repr (.cons (.call 3 (.cons (.idx (.loc 11) (.con (.int 1))) (.cons (.slc false (.loc 12) .none (.some (.loc 3))) .nil))) .nil)) (.bi false .repr (.cons (.loc 19) .nil))) (.cons (.ret (.con (.bool false))) .nil) .nil) .nil)))))) .nil))))))))))))) (.cons (.set 10 (.tup (.cons (.tup (.cons (.tup (.cons (.con (.int 0)) (.cons (.con (.int 1)) .nil))) (.cons (.tup (.cons (.con (.int 0)) (.cons (.con (.int 2)) .nil))) .nil))) (.cons (.tup (.cons (.con (.int 2)) (.cons (.con (.int 1)) .nil))) .nil)))) (.cons (.set 11 (.lst true (.cons (.call 19 (.cons (.loc 10) (.cons (.tup (.cons (.con (.int 5)) (.cons (.con (.int 2)) (.cons (.con (.int 0)) .nil)))) .nil))) (.cons (.call 19 (.cons (.tup (.cons (.tup (.cons (.tup (.cons (.con (.int 0)) (.cons (.con (.int 1)) .nil))) .nil)) (.cons (.con .none) .nil))) (.cons (.tup (.cons (.con (.int 1)) (.cons (.con (.int 0)) .nil))) .nil))) .nil)))) (.cons (.expr (.mt false .append (.loc 11) (.cons (.call 21 (.cons (.tup (.cons (.con (.int 1)) (.cons (.tup (.cons (.tup (.cons (.tup .nil) (.cons (.con .none) .nil))) .nil)) .nil))) (.cons (.tup (.cons (.con (.int 2)) (.cons (.tup (.cons (.tup (.cons (.tup .nil) (.cons (.tup (.cons (.con (.int 0)) (.cons (.con (.int 1)) .nil))) .nil))) .nil)) .nil))) .nil))) .nil))) (.cons (.expr (.mt false .append (.loc 11) (.cons (.call 19 (.cons (.tup (.cons (.tup (.cons (.tup (.cons (.con (.int 0)) (.cons (.con (.int 1)) .nil))) (.cons (.tup (.cons (.con (.int 0)) (.cons (.con (.int 2)) .nil))) (.cons (.tup (.cons (.con (.int 1)) (.cons (.con (.int 2)) .nil))) .nil)))) (.cons (.tup (.cons (.con (.int 2)) (.cons (.con (.int 1)) .nil))) .nil))) (.cons (.tup (.cons (.con (.int 5)) (.cons (.con (.int 2)) (.cons (.con (.int 0)) .nil)))) .nil))) .nil))) (.cons (.frz 11) (.cons (.set 9 (.lst false (.cons (.tup (.cons (.tup (.cons (.tup (.cons (.con (.int 0)) (.cons (.con (.int 5)) .nil))) (.cons (.tup (.cons (.con (.int 2)) (.cons (.con (.int 5)) .nil))) .nil))) (.cons (.tup (.cons (.con (.int 0)) (.cons (.con (.int 2)) .nil))) .nil))) (.cons (.tup (.cons (.tup (.cons (.tup (.cons (.con (.int 0)) (.cons (.con (.int 1)) .nil))) .nil)) (.cons (.con .none) .nil))) (.cons (.tup (.cons (.con (.int 3)) (.cons (.tup (.cons (.tup (.cons (.tup .nil) (.cons (.con .none) .nil))) (.cons (.tup (.cons (.tup .nil) (.cons (.tup (.cons (.con (.int 1)) (.cons (.con (.int 2)) .nil))) .nil))) .nil))) .nil))) .nil))))) (.cons (.ret (.cmp .eq (.bi false .repr (.cons (.loc 11) .nil)) (.bi false .repr (.cons (.bin false .add (.loc 9) (.lst false (.cons (.tup (.cons (.tup (.cons (.tup (.cons (.con (.int 0)) (.cons (.con (.int 2)) .nil))) (.cons (.tup (.cons (.con (.int 0)) (.cons (.con (.int 5)) .nil))) (.cons (.tup (.cons (.con (.int 2)) (.cons (.con (.int 5)) .nil))) .nil)))) (.cons (.tup (.cons (.con (.int 0)) (.cons (.con (.int 2)) .nil))) .nil))) .nil))) .nil)))) .nil)))))))))
def d26 : Def := ⟨1, 20, b26, false⟩
/-- way_order(k): 0:k -/
def b27 : Ss := (.cons (.ret (.idx (.glo 0) (.loc 0))) .nil)
def d27 : Def := ⟨1, 1, b27, true⟩
/-- way_by(numbers): 0:numbers 1:unlike 2:number -/
def b28 : Ss := (.cons (.set 1 (.sset false (.loc 0))) (.cons (.ret (.gidx 0 (.bi false .tuple (.cons (.lc false (.mt false .index (.loc 1) (.cons (.loc 2) .nil)) [2] (.name 2) (.ex (.loc 0)) .none) .nil)))) .nil))
def d28 : Def := ⟨1, 3, b28, true⟩
/-- way_of(placing, s, t): 0:placing 1:s 2:t -/
def b29 : Ss := (.cons (.ret (.call 28 (.cons (.lst false (.cons (.idx (.loc 0) (.idx (.loc 1) (.con (.int 0)))) (.cons (.idx (.loc 0) (.idx (.loc 1) (.con (.int 1)))) (.cons (.idx (.loc 0) (.idx (.loc 2) (.con (.int 0)))) (.cons (.idx (.loc 0) (.idx (.loc 2) (.con (.int 1)))) .nil))))) .nil))) .nil)
def d29 : Def := ⟨3, 3, b29, true⟩
/-- turned(k): 0:k 1:order -/
def b30 : Ss := (.cons (.set 1 (.idx (.glo 0) (.loc 0))) (.cons (.ret (.call 28 (.cons (.lst false (.cons (.idx (.loc 1) (.con (.int 2))) (.cons (.idx (.loc 1) (.con (.int 3))) (.cons (.idx (.loc 1) (.con (.int 0))) (.cons (.idx (.loc 1) (.con (.int 1))) .nil))))) .nil))) .nil))
def d30 : Def := ⟨1, 2, b30, true⟩
/-- turned_lot(lot): 0:lot 1:k -/
def b31 : Ss := (.cons (.ret (.bi false .tuple (.cons (.bi false .sorted (.cons (.lc false (.call 30 (.cons (.loc 1) .nil)) [1] (.name 1) (.ex (.loc 0)) .none) .nil)) .nil))) .nil)
def d31 : Def := ⟨1, 2, b31, true⟩
/-- about(k): 0:k 1:order -/
def b32 : Ss := (.cons (.set 1 (.idx (.glo 0) (.loc 0))) (.cons (.ret (.call 28 (.cons (.lst false (.cons (.neg (.idx (.loc 1) (.con (.int 1)))) (.cons (.neg (.idx (.loc 1) (.con (.int 0)))) (.cons (.neg (.idx (.loc 1) (.con (.int 3)))) (.cons (.neg (.idx (.loc 1) (.con (.int 2)))) .nil))))) .nil))) .nil))
def d32 : Def := ⟨1, 2, b32, true⟩
/-- about_lot(lot): 0:lot 1:k -/
def b33 : Ss := (.cons (.ret (.bi false .tuple (.cons (.bi false .sorted (.cons (.lc false (.call 32 (.cons (.loc 1) .nil)) [1] (.name 1) (.ex (.loc 0)) .none) .nil)) .nil))) .nil)
def d33 : Def := ⟨1, 2, b33, true⟩
/-- ties_of(order): 0:order 1:a 2:b -/
def b34 : Ss := (.cons (.ret (.bi false .tuple (.cons (.lc false (.tup (.cons (.loc 1) (.cons (.loc 2) .nil))) [1, 2] (.cons (.name 1) (.cons (.name 2) .nil)) (.ex (.glo 1)) (.some (.and (.cmp .lt (.loc 1) (.loc 2)) (.cmp .eq (.idx (.loc 0) (.loc 1)) (.idx (.loc 0) (.loc 2)))))) .nil))) .nil)
def d34 : Def := ⟨1, 3, b34, true⟩
/-- tied(orders, ties): 0:orders 1:ties 2:order 3:a 4:b -/
def b35 : Ss := (.cons (.ret (.lc false (.loc 2) [2] (.name 2) (.ex (.loc 0)) (.some (.bi false .all (.cons (.lc false (.cmp .eq (.idx (.loc 2) (.loc 3)) (.idx (.loc 2) (.loc 4))) [3, 4] (.cons (.name 3) (.cons (.name 4) .nil)) (.ex (.loc 1)) .none) .nil))))) .nil)
def d35 : Def := ⟨2, 5, b35, true⟩
/-- refusing(orders, order, ties): 0:orders 1:order 2:ties 3:some 4:u 5:v 6:one -/
def b36 : Ss := (.cons (.set 3 (.call 35 (.cons (.loc 0) (.cons (.loc 2) .nil)))) (.cons (.ite (.cmp .eq (.loc 3) (.lst false .nil)) (.cons (.ret (.tup (.cons (.loc 2) (.cons (.con .none) .nil)))) .nil) .nil) (.cons (.loop (.cons (.name 4) (.cons (.name 5) .nil)) (.ex (.glo 1)) (.cons (.ite (.and (.cmp .lt (.idx (.loc 1) (.loc 5)) (.idx (.loc 1) (.loc 4))) (.not (.bi false .any (.cons (.lc false (.cmp .lt (.idx (.loc 6) (.loc 5)) (.idx (.loc 6) (.loc 4))) [6] (.name 6) (.ex (.loc 3)) .none) .nil)))) (.cons (.ret (.tup (.cons (.loc 2) (.cons (.tup (.cons (.loc 4) (.cons (.loc 5) .nil))) .nil)))) .nil) .nil) .nil)) (.cons (.ret (.con .none)) .nil))))
def d36 : Def := ⟨3, 7, b36, true⟩
/-- refusing_saying(lot, k): 0:lot 1:k 2:way -/
def b37 : Ss := (.cons (.ret (.call 36 (.cons (.lc false (.idx (.glo 0) (.loc 2)) [2] (.name 2) (.ex (.loc 0)) .none) (.cons (.idx (.glo 0) (.loc 1)) (.cons (.call 34 (.cons (.idx (.glo 0) (.loc 1)) .nil)) .nil))))) .nil)
def d37 : Def := ⟨2, 3, b37, true⟩
/-- hull_of_lot(lot): 0:lot 1:k -/
def b38 : Ss := (.cons (.ret (.bi false .tuple (.cons (.lc false (.loc 1) [1] (.name 1) (.rng1 (.bi false .len (.cons (.glo 0) .nil))) (.some (.or (.cmp .inn (.loc 1) (.loc 0)) (.isN (.call 37 (.cons (.loc 0) (.cons (.loc 1) .nil))))))) .nil))) .nil)
def d38 : Def := ⟨1, 2, b38, true⟩
/-- is_said(lot): 0:lot -/
def b39 : Ss := (.cons (.ret (.cmp .eq (.call 38 (.cons (.loc 0) .nil)) (.bi false .tuple (.cons (.loc 0) .nil)))) .nil)
def d39 : Def := ⟨1, 1, b39, true⟩
/-- is_later_never(lot, k): 0:lot 1:k 2:order 3:way 4:u 5:v -/
def b40 : Ss := (.cons (.set 2 (.idx (.glo 0) (.loc 1))) (.cons (.ret (.bi false .any (.cons (.lc false (.and (.cmp .lt (.idx (.loc 2) (.loc 5)) (.idx (.loc 2) (.loc 4))) (.not (.bi false .any (.cons (.lc false (.cmp .lt (.idx (.idx (.glo 0) (.loc 3)) (.loc 5)) (.idx (.idx (.glo 0) (.loc 3)) (.loc 4))) [3] (.name 3) (.ex (.loc 0)) .none) .nil)))) [4, 5] (.cons (.name 4) (.cons (.name 5) .nil)) (.ex (.glo 1)) .none) .nil))) .nil))
def d40 : Def := ⟨2, 6, b40, true⟩
/-- is_tied_never(lot, k): 0:lot 1:k 2:way 3:tie -/
def b41 : Ss := (.cons (.ret (.bi false .any (.cons (.lc false (.cmp .eq (.call 35 (.cons (.lc false (.idx (.glo 0) (.loc 2)) [2] (.name 2) (.ex (.loc 0)) .none) (.cons (.tup (.cons (.loc 3) .nil)) .nil))) (.lst false .nil)) [3] (.name 3) (.ex (.call 34 (.cons (.idx (.glo 0) (.loc 1)) .nil))) .none) .nil))) .nil)
def d41 : Def := ⟨2, 4, b41, true⟩
/-- is_clear(lot): 0:lot 1:k -/
def b42 : Ss := (.cons (.ret (.bi false .all (.cons (.lc false (.or (.cmp .inn (.loc 1) (.loc 0)) (.or (.call 40 (.cons (.loc 0) (.cons (.loc 1) .nil))) (.call 41 (.cons (.loc 0) (.cons (.loc 1) .nil))))) [1] (.name 1) (.rng1 (.bi false .len (.cons (.glo 0) .nil))) .none) .nil))) .nil)
def d42 : Def := ⟨1, 2, b42, true⟩
/-- is_plain(lot): 0:lot 1:k -/
def b43 : Ss := (.cons (.ret (.bi false .all (.cons (.lc false (.or (.cmp .inn (.loc 1) (.loc 0)) (.call 40 (.cons (.loc 0) (.cons (.loc 1) .nil)))) [1] (.name 1) (.rng1 (.bi false .len (.cons (.glo 0) .nil))) .none) .nil))) .nil)
def d43 : Def := ⟨1, 2, b43, true⟩
/-- sayings_of_lot(lot, s, t): 0:lot 1:s 2:t 3:moments 4:found 5:k 6:saying 7:pairs 8:a 9:b 10:ties 11:pair 12:late -/
def b44 : Ss := (.cons (.par [3, 4] (.cons (.tup (.star (.loc 1) (.star (.loc 2) .nil))) (.cons (.lst true .nil) .nil))) (.cons (.loop (.name 5) (.rng1 (.bi false .len (.cons (.glo 0) .nil))) (.cons (.set 6 (.ite (.cmp .inn (.loc 5) (.loc 0)) (.con .none) (.call 37 (.cons (.loc 0) (.cons (.loc 5) .nil))))) (.cons (.ite (.isNN (.loc 6)) (.cons (.set 7 (.lc false (.tup (.cons (.idx (.loc 3) (.loc 8)) (.cons (.idx (.loc 3) (.loc 9)) .nil))) [8, 9] (.cons (.name 8) (.cons (.name 9) .nil)) (.ex (.idx (.loc 6) (.con (.int 0)))) .none)) (.cons (.set 10 (.bi false .tuple (.cons (.bi false .sorted (.cons (.lc false (.tup (.cons (.bi false .minL (.cons (.loc 11) .nil)) (.cons (.bi false .maxL (.cons (.loc 11) .nil)) .nil))) [11] (.name 11) (.ex (.loc 7)) .none) .nil)) .nil))) (.cons (.set 12 (.tup (.cons (.loc 10) (.cons (.ite (.isN (.idx (.loc 6) (.con (.int 1)))) (.con .none) (.tup (.cons (.idx (.loc 3) (.idx (.idx (.loc 6) (.con (.int 1))) (.con (.int 0)))) (.cons (.idx (.loc 3) (.idx (.idx (.loc 6) (.con (.int 1))) (.con (.int 1)))) .nil)))) .nil)))) (.cons (.ite (.cmp .nin (.loc 12) (.loc 4)) (.cons (.expr (.mt false .append (.loc 4) (.cons (.loc 12) .nil))) .nil) .nil) .nil)))) .nil) .nil))) (.cons (.frz 4) (.cons (.ret (.bi false .tuple (.cons (.loc 4) .nil))) .nil))))
def d44 : Def := ⟨3, 13, b44, true⟩
/-- places_about(order): 0:order 1:found 2:number -/
def b45 : Ss := (.cons (.set 1 (.lst false (.cons (.neg (.con (.int 6))) (.cons (.neg (.con (.int 3))) .nil)))) (.cons (.loop (.name 2) (.rng1 (.bin false .add (.bi false .maxL (.cons (.loc 0) .nil)) (.con (.int 1)))) (.cons (.set 1 (.bin false .add (.loc 1) (.lst false (.cons (.bin false .mul (.con (.int 10)) (.loc 2)) (.cons (.bin false .add (.bin false .mul (.con (.int 10)) (.loc 2)) (.con (.int 3))) (.cons (.bin false .add (.bin false .mul (.con (.int 10)) (.loc 2)) (.con (.int 6))) .nil)))))) .nil)) (.cons (.ret (.loc 1)) .nil)))
def d45 : Def := ⟨1, 3, b45, true⟩
/-- spread(v): 0:v 1:order 2:found 3:s 4:t 5:number 6:begin 7:end -/
def b46 : Ss := (.cons (.par [1, 2] (.cons (.idx (.glo 0) (.loc 0)) (.cons (.lst true .nil) .nil))) (.cons (.par [3, 4] (.cons (.lc false (.bin false .mul (.con (.int 10)) (.loc 5)) [5] (.name 5) (.ex (.slc false (.loc 1) .none (.some (.con (.int 2))))) .none) (.cons (.lc false (.bin false .mul (.con (.int 10)) (.loc 5)) [5] (.name 5) (.ex (.slc false (.loc 1) (.some (.con (.int 2))) .none)) .none) .nil))) (.cons (.loop (.name 6) (.ex (.call 45 (.cons (.loc 1) .nil))) (.cons (.loop (.name 7) (.ex (.call 45 (.cons (.loc 1) .nil))) (.cons (.ite (.cmp .lt (.loc 6) (.loc 7)) (.cons (.expr (.mt false .append (.loc 2) (.cons (.tup (.cons (.call 28 (.cons (.lst false (.star (.loc 4) (.cons (.loc 6) (.cons (.loc 7) .nil)))) .nil)) (.cons (.call 28 (.cons (.lst false (.star (.loc 3) (.cons (.loc 6) (.cons (.loc 7) .nil)))) .nil)) (.cons (.tup (.star (.loc 3) (.star (.loc 4) (.cons (.loc 6) (.cons (.loc 7) .nil))))) .nil)))) .nil))) .nil) .nil) .nil)) .nil)) (.cons (.frz 2) (.cons (.ret (.loc 2)) .nil)))))
def d46 : Def := ⟨1, 8, b46, true⟩
/-- together(v, w): 0:v 1:w 2:triple -/
def b47 : Ss := (.cons (.ret (.bi false .tuple (.cons (.sset false (.lc false (.idx (.loc 2) (.con (.int 1))) [2] (.name 2) (.ex (.call 46 (.cons (.loc 0) .nil))) (.some (.cmp .eq (.idx (.loc 2) (.con (.int 0))) (.loc 1))))) .nil))) .nil)
def d47 : Def := ⟨2, 3, b47, true⟩
/-- three_placed(v, w, x): 0:v 1:w 2:x 3:way 4:late 5:numbers -/
def b48 : Ss := (.cons (.loop (.cons (.name 3) (.cons (.name 4) (.cons (.name 5) .nil))) (.ex (.call 46 (.cons (.loc 0) .nil))) (.cons (.ite (.cmp .eq (.tup (.cons (.loc 3) (.cons (.loc 4) .nil))) (.tup (.cons (.loc 1) (.cons (.loc 2) .nil)))) (.cons (.ret (.loc 5)) .nil) .nil) .nil)) (.cons (.ret (.con .none)) .nil))
def d48 : Def := ⟨3, 6, b48, true⟩
/-- law(script): 0:script 1:source 2:every 3:told 4:lot 5:k 6:n 7:placing 8:late -/
def b49 : Ss := (.cons (.set 1 (.call 5 (.cons (.loc 0) .nil))) (.cons (.set 2 (.bi false .tuple (.cons (.lrng false (.rng1 (.con (.int 13)))) .nil))) (.cons (.set 3 (.lst false (.cons (.call 31 (.cons (.tup (.cons (.con (.int 1)) (.cons (.con (.int 2)) (.cons (.con (.int 3)) (.cons (.con (.int 5)) (.cons (.con (.int 6)) (.cons (.con (.int 7)) .nil))))))) .nil)) (.cons (.call 33 (.cons (.tup (.cons (.con (.int 1)) (.cons (.con (.int 2)) (.cons (.con (.int 3)) (.cons (.con (.int 6)) (.cons (.con (.int 7)) .nil)))))) .nil)) (.cons (.call 47 (.cons (.con (.int 3)) (.cons (.con (.int 3)) .nil))) (.cons (.call 47 (.cons (.con (.int 6)) (.cons (.con (.int 6)) .nil))) (.cons (.call 47 (.cons (.con (.int 3)) (.cons (.con (.int 12)) .nil))) .nil))))))) (.cons (.ite (.cmp .ne (.bi false .repr (.cons (.loc 3) .nil)) (.bi false .repr (.cons (.lst false (.cons (.tup (.cons (.con (.int 4)) (.cons (.con (.int 8)) (.cons (.con (.int 9)) (.cons (.con (.int 10)) (.cons (.con (.int 11)) (.cons (.con (.int 12)) .nil))))))) (.cons (.tup (.cons (.con (.int 7)) (.cons (.con (.int 8)) (.cons (.con (.int 9)) (.cons (.con (.int 11)) (.cons (.con (.int 12)) .nil)))))) (.cons (.tup (.cons (.con (.int 3)) .nil)) (.cons (.tup (.cons (.con (.int 2)) (.cons (.con (.int 3)) (.cons (.con (.int 6)) .nil)))) (.cons (.loc 2) .nil)))))) .nil))) (.cons (.ret (.con (.bool false))) .nil) .nil) (.cons (.set 3 (.lst false (.cons (.call 38 (.cons (.tup (.cons (.con (.int 3)) (.cons (.con (.int 12)) .nil))) .nil)) (.cons (.call 38 (.cons (.tup (.cons (.con (.int 2)) (.cons (.con (.int 3)) .nil))) .nil)) (.cons (.call 38 (.cons (.tup .nil) .nil)) (.cons (.call 38 (.cons (.loc 2) .nil)) (.cons (.call 38 (.cons (.tup (.cons (.con (.int 2)) (.cons (.con (.int 12)) .nil))) .nil)) .nil))))))) (.cons (.ite (.cmp .ne (.bi false .repr (.cons (.loc 3) .nil)) (.bi false .repr (.cons (.lst false (.cons (.tup (.cons (.con (.int 3)) (.cons (.con (.int 6)) (.cons (.con (.int 7)) (.cons (.con (.int 10)) (.cons (.con (.int 11)) (.cons (.con (.int 12)) .nil))))))) (.cons (.tup (.cons (.con (.int 2)) (.cons (.con (.int 3)) .nil))) (.cons (.tup .nil) (.cons (.loc 2) (.cons (.tup (.cons (.con (.int 2)) (.cons (.con (.int 6)) (.cons (.con (.int 7)) (.cons (.con (.int 10)) (.cons (.con (.int 11)) (.cons (.con (.int 12)) .nil))))))) .nil)))))) .nil))) (.cons (.ret (.con (.bool false))) .nil) .nil) (.cons (.set 3 (.lc false (.call 39 (.cons (.loc 4) .nil)) [4] (.name 4) (.ex (.lst false (.cons (.tup (.cons (.con (.int 2)) (.cons (.con (.int 3)) .nil))) (.cons (.tup (.cons (.con (.int 3)) (.cons (.con (.int 12)) .nil))) (.cons (.tup (.cons (.con (.int 0)) (.cons (.con (.int 6)) .nil))) (.cons (.tup (.cons (.con (.int 2)) (.cons (.con (.int 6)) (.cons (.con (.int 7)) (.cons (.con (.int 10)) (.cons (.con (.int 11)) (.cons (.con (.int 12)) .nil))))))) .nil)))))) .none)) (.cons (.set 3 (.bin false .add (.bin false .add (.loc 3) (.lc false (.call 42 (.cons (.loc 4) .nil)) [4] (.name 4) (.ex (.lst false (.cons (.tup (.cons (.con (.int 3)) .nil)) (.cons (.tup (.cons (.con (.int 0)) (.cons (.con (.int 6)) .nil))) (.cons (.tup (.cons (.con (.int 2)) (.cons (.con (.int 3)) .nil))) .nil))))) .none)) (.lc false (.call 43 (.cons (.loc 4) .nil)) [4] (.name 4) (.ex (.lst false (.cons (.tup (.cons (.con (.int 2)) (.cons (.con (.int 3)) .nil))) (.cons (.tup (.cons (.con (.int 3)) .nil)) (.cons (.loc 2) .nil))))) .none))) (.cons (.ite (.cmp .ne (.loc 3) (.lst false (.cons (.con (.bool true)) (.cons (.con (.bool false)) (.cons (.con (.bool true)) (.cons (.con (.bool true)) (.cons (.con (.bool true)) (.cons (.con (.bool false)) (.cons (.con (.bool true)) (.cons (.con (.bool true)) (.cons (.con (.bool false)) (.cons (.con (.bool true)) .nil)))))))))))) (.cons (.ret (.con (.bool false))) .nil) .nil) (.cons (.ite (.cmp .ne (.lc false (.loc 5) [5] (.name 5) (.ex (.loc 2)) (.some (.isN (.call 37 (.cons (.tup (.cons (.con (.int 3)) (.cons (.con (.int 12)) .nil))) (.cons (.loc 5) .nil)))))) (.lst false (.cons (.con (.int 3)) (.cons (.con (.int 6)) (.cons (.con (.int 7)) (.cons (.con (.int 10)) (.cons (.con (.int 11)) (.cons (.con (.int 12)) .nil)))))))) (.cons (.ret (.con (.bool false))) .nil) .nil) (.cons (.set 6 (.bin false .add (.con (.int 1)) (.call 6 (.cons (.loc 1) (.cons (.con (.int 9)) .nil))))) (.cons (.set 7 (.tup (.cons (.con (.int 0)) (.cons (.loc 6) (.cons (.loc 6) (.cons (.bin false .mul (.con (.int 3)) (.loc 6)) (.cons (.bin false .mul (.con (.int 5)) (.loc 6)) .nil))))))) (.cons (.set 3 (.lst false (.cons (.call 29 (.cons (.loc 7) (.cons (.tup (.cons (.con (.int 0)) (.cons (.con (.int 1)) .nil))) (.cons (.tup (.cons (.con (.int 1)) (.cons (.con (.int 3)) .nil))) .nil)))) (.cons (.call 29 (.cons (.loc 7) (.cons (.tup (.cons (.con (.int 0)) (.cons (.con (.int 3)) .nil))) (.cons (.tup (.cons (.con (.int 2)) (.cons (.con (.int 4)) .nil))) .nil)))) (.cons (.call 29 (.cons (.loc 7) (.cons (.tup (.cons (.con (.int 0)) (.cons (.con (.int 3)) .nil))) (.cons (.tup (.cons (.con (.int 0)) (.cons (.con (.int 4)) .nil))) .nil)))) .nil))))) (.cons (.set 3 (.bin false .add (.loc 3) (.lst false (.cons (.call 29 (.cons (.loc 7) (.cons (.tup (.cons (.con (.int 1)) (.cons (.con (.int 4)) .nil))) (.cons (.tup (.cons (.con (.int 2)) (.cons (.con (.int 3)) .nil))) .nil)))) (.cons (.call 29 (.cons (.loc 7) (.cons (.tup (.cons (.con (.int 3)) (.cons (.con (.int 4)) .nil))) (.cons (.tup (.cons (.con (.int 0)) (.cons (.con (.int 4)) .nil))) .nil)))) (.cons (.call 29 (.cons (.loc 7) (.cons (.tup (.cons (.con (.int 2)) (.cons (.con (.int 3)) .nil))) (.cons (.tup (.cons (.con (.int 1)) (.cons (.con (.int 3)) .nil))) .nil)))) .nil)))))) (.cons (.ite (.or (.cmp .ne (.loc 3) (.lst false (.cons (.con (.int 2)) (.cons (.con (.int 6)) (.cons (.con (.int 1)) (.cons (.con (.int 4)) (.cons (.con (.int 9)) (.cons (.con (.int 0)) .nil)))))))) (.isNN (.call 48 (.cons (.con (.int 3)) (.cons (.con (.int 3)) (.cons (.con (.int 12)) .nil)))))) (.cons (.ret (.con (.bool false))) .nil) .nil) (.cons (.set 3 (.lst false (.cons (.call 37 (.cons (.tup (.cons (.con (.int 6)) (.cons (.con (.int 7)) (.cons (.con (.int 10)) (.cons (.con (.int 11)) .nil))))) (.cons (.con (.int 2)) .nil))) (.cons (.call 37 (.cons (.tup (.cons (.con (.int 0)) (.cons (.con (.int 6)) .nil))) (.cons (.con (.int 1)) .nil))) .nil)))) (.cons (.ite (.or (.cmp .ne (.idx (.idx (.loc 3) (.con (.int 0))) (.con (.int 0))) (.tup (.cons (.tup (.cons (.con (.int 1)) (.cons (.con (.int 2)) .nil))) .nil))) (.or (.call 10 (.cons (.idx (.loc 3) (.con (.int 0))) (.cons (.call 27 (.cons (.con (.int 2)) .nil)) .nil))) (.call 10 (.cons (.idx (.loc 3) (.con (.int 1))) (.cons (.call 27 (.cons (.con (.int 1)) .nil)) .nil))))) (.cons (.ret (.con (.bool false))) .nil) .nil) (.cons (.set 8 (.call 44 (.cons (.tup (.cons (.con (.int 2)) .nil)) (.cons (.tup (.cons (.con (.int 3)) (.cons (.con (.int 1)) .nil))) (.cons (.tup (.cons (.con (.int 0)) (.cons (.con (.int 2)) .nil))) .nil))))) (.cons (.ret (.and (.call 24 (.cons (.loc 8) (.cons (.tup (.cons (.con (.int 4)) (.cons (.con (.int 4)) (.cons (.con (.int 9)) (.cons (.con (.int 1)) .nil))))) .nil))) (.not (.call 24 (.cons (.loc 8) (.cons (.tup (.cons (.con (.int 4)) (.cons (.con (.int 3)) (.cons (.con (.int 9)) (.cons (.con (.int 1)) .nil))))) .nil)))))) .nil)))))))))))))))))))
def d49 : Def := ⟨1, 9, b49, false⟩
/-- together_lots(one, other): 0:one 1:other 2:found 3:v 4:triple -/
def b50 : Ss := (.cons (.set 2 (.lst false .nil)) (.cons (.loop (.name 3) (.ex (.loc 0)) (.cons (.set 2 (.bin false .add (.loc 2) (.lc false (.idx (.loc 4) (.con (.int 1))) [4] (.name 4) (.ex (.call 46 (.cons (.loc 3) .nil))) (.some (.cmp .inn (.idx (.loc 4) (.con (.int 0))) (.loc 1)))))) .nil)) (.cons (.ret (.bi false .tuple (.cons (.sset false (.loc 2)) .nil))) .nil)))
def d50 : Def := ⟨2, 5, b50, true⟩
/-- _law_some_lot(source): 0:source 1:seldom 2:lot 3:k -/
def b51 : Ss := (.cons (.set 1 (.call 7 (.cons (.loc 0) (.cons (.lst false (.cons (.con (.int 2)) (.cons (.con (.int 2)) (.cons (.con (.int 3)) (.cons (.con (.int 5)) (.cons (.con (.int 13)) .nil)))))) .nil)))) (.cons (.set 2 (.lc false (.loc 3) [3] (.name 3) (.rng1 (.con (.int 13))) (.some (.cmp .eq (.call 6 (.cons (.loc 0) (.cons (.loc 1) .nil))) (.con (.int 0)))))) (.cons (.ret (.ite (.and (.cmp .eq (.loc 2) (.lst false .nil)) (.cmp .gt (.call 6 (.cons (.loc 0) (.cons (.con (.int 4)) .nil))) (.con (.int 0)))) (.bi false .tuple (.cons (.lst false (.cons (.call 6 (.cons (.loc 0) (.cons (.con (.int 13)) .nil))) .nil)) .nil)) (.bi false .tuple (.cons (.loc 2) .nil)))) .nil)))
def d51 : Def := ⟨1, 4, b51, false⟩
/-- _law_stretches(source): 0:source 1:wide 2:found 3:lap 4:begin -/
def b52 : Ss := (.cons (.par [1, 2] (.cons (.call 7 (.cons (.loc 0) (.cons (.lst false (.cons (.con (.int 3)) (.cons (.con (.int 4)) (.cons (.con (.int 6)) (.cons (.bin false .pow (.con (.int 10)) (.con (.int 9))) .nil))))) .nil))) (.cons (.lst false .nil) .nil))) (.cons (.loop (.name 3) (.rng1 (.con (.int 4))) (.cons (.set 4 (.call 6 (.cons (.loc 0) (.cons (.loc 1) .nil)))) (.cons (.set 2 (.bin false .add (.loc 2) (.lst false (.cons (.loc 4) (.cons (.bin false .add (.bin false .add (.loc 4) (.con (.int 1))) (.call 6 (.cons (.loc 0) (.cons (.loc 1) .nil)))) .nil))))) .nil))) (.cons (.ret (.bi false .tuple (.cons (.loc 2) .nil))) .nil)))
def d52 : Def := ⟨1, 5, b52, false⟩
/-- law(script): 0:script 1:source 2:lap 3:a 4:b 5:c 6:turn 7:both 8:v 9:w 10:x 11:told 12:placing 13:s 14:t 15:q 16:p 17:lot -/
def b53 : Ss := (.cons (.set 1 (.call 5 (.cons (.loc 0) .nil))) (.cons (.loop (.name 2) (.rng1 (.con (.int 2))) (.cons (.unp (.cons (.name 3) (.cons (.name 4) (.cons (.name 5) .nil))) (.lc false (.call 51 (.cons (.loc 1) .nil)) [6] (.name 6) (.rng1 (.con (.int 3))) .none)) (.cons (.unp (.cons (.name 3) (.cons (.name 4) (.cons (.name 5) .nil))) (.ite (.cmp .eq (.loc 2) (.con (.int 0))) (.tup (.cons (.loc 3) (.cons (.loc 4) (.cons (.loc 5) .nil)))) (.tup (.cons (.slc false (.loc 3) .none (.some (.con (.int 2)))) (.cons (.slc false (.loc 4) (.some (.neg (.con (.int 2)))) .none) (.cons (.slc false (.loc 5) .none (.some (.con (.int 2)))) .nil)))))) (.cons (.set 7 (.call 50 (.cons (.loc 3) (.cons (.loc 4) .nil)))) (.cons (.ite (.or (.cmp .ne (.call 50 (.cons (.loc 3) (.cons (.tup (.cons (.con (.int 0)) .nil)) .nil))) (.loc 3)) (.cmp .ne (.call 50 (.cons (.tup (.cons (.con (.int 0)) .nil)) (.cons (.loc 3) .nil))) (.loc 3))) (.cons (.ret (.con (.bool false))) .nil) .nil) (.cons (.ite (.cmp .ne (.bi false .repr (.cons (.call 31 (.cons (.loc 7) .nil)) .nil)) (.bi false .repr (.cons (.call 50 (.cons (.call 31 (.cons (.loc 4) .nil)) (.cons (.call 31 (.cons (.loc 3) .nil)) .nil))) .nil))) (.cons (.ret (.con (.bool false))) .nil) .nil) (.cons (.ite (.cmp .ne (.call 33 (.cons (.loc 7) .nil)) (.call 50 (.cons (.call 33 (.cons (.loc 3) .nil)) (.cons (.call 33 (.cons (.loc 4) .nil)) .nil)))) (.cons (.ret (.con (.bool false))) .nil) .nil) (.cons (.ite (.cmp .ne (.call 50 (.cons (.loc 7) (.cons (.loc 5) .nil))) (.call 50 (.cons (.loc 3) (.cons (.call 50 (.cons (.loc 4) (.cons (.loc 5) .nil))) .nil)))) (.cons (.ret (.con (.bool false))) .nil) .nil) (.cons (.unp (.cons (.name 8) (.cons (.name 9) (.cons (.name 10) .nil))) (.lc false (.call 6 (.cons (.loc 1) (.cons (.con (.int 13)) .nil))) [6] (.name 6) (.rng1 (.con (.int 3))) .none)) (.cons (.ite (.and (.cmp .gt (.loc 2) (.con (.int 0))) (.cmp .ne (.call 47 (.cons (.loc 8) (.cons (.loc 9) .nil))) (.tup .nil))) (.cons (.set 10 (.call 7 (.cons (.loc 1) (.cons (.call 47 (.cons (.loc 8) (.cons (.loc 9) .nil))) .nil)))) .nil) .nil) (.cons (.set 11 (.lst false (.cons (.cmp .inn (.loc 10) (.call 47 (.cons (.loc 8) (.cons (.loc 9) .nil)))) (.cons (.cmp .inn (.loc 8) (.call 47 (.cons (.loc 10) (.cons (.idx (.call 31 (.cons (.tup (.cons (.loc 9) .nil)) .nil)) (.con (.int 0))) .nil)))) (.cons (.cmp .inn (.loc 9) (.call 47 (.cons (.idx (.call 31 (.cons (.tup (.cons (.loc 8) .nil)) .nil)) (.con (.int 0))) (.cons (.loc 10) .nil)))) .nil))))) (.cons (.ite (.cmp .nin (.loc 11) (.tup (.cons (.bin false .mul (.lst false (.cons (.con (.bool true)) .nil)) (.con (.int 3))) (.cons (.bin false .mul (.lst false (.cons (.con (.bool false)) .nil)) (.con (.int 3))) .nil)))) (.cons (.ret (.con (.bool false))) .nil) .nil) (.cons (.set 12 (.call 52 (.cons (.loc 1) .nil))) (.cons (.par [13, 14, 15, 16] (.cons (.tup (.cons (.con (.int 0)) (.cons (.con (.int 1)) .nil))) (.cons (.tup (.cons (.con (.int 2)) (.cons (.con (.int 3)) .nil))) (.cons (.tup (.cons (.con (.int 4)) (.cons (.con (.int 5)) .nil))) (.cons (.tup (.cons (.con (.int 6)) (.cons (.con (.int 7)) .nil))) .nil))))) (.cons (.ite (.cmp .nin (.call 29 (.cons (.loc 12) (.cons (.loc 13) (.cons (.loc 15) .nil)))) (.call 47 (.cons (.call 29 (.cons (.loc 12) (.cons (.loc 13) (.cons (.loc 14) .nil)))) (.cons (.call 29 (.cons (.loc 12) (.cons (.loc 14) (.cons (.loc 15) .nil)))) .nil)))) (.cons (.ret (.con (.bool false))) .nil) .nil) (.cons (.set 17 (.call 50 (.cons (.tup (.cons (.call 29 (.cons (.loc 12) (.cons (.loc 13) (.cons (.loc 14) .nil)))) .nil)) (.cons (.call 47 (.cons (.call 29 (.cons (.loc 12) (.cons (.loc 14) (.cons (.loc 15) .nil)))) (.cons (.call 29 (.cons (.loc 12) (.cons (.loc 15) (.cons (.loc 16) .nil)))) .nil))) .nil)))) (.cons (.ite (.cmp .nin (.call 29 (.cons (.loc 12) (.cons (.loc 13) (.cons (.loc 16) .nil)))) (.loc 17)) (.cons (.ret (.con (.bool false))) .nil) .nil) .nil))))))))))))))))) (.cons (.ret (.con (.bool true))) .nil)))
def d53 : Def := ⟨1, 18, b53, false⟩
/-- _law_orders(n): 0:n 1:found 2:lap 3:later 4:order 5:levels 6:level 7:gap 8:one -/
def b54 : Ss := (.cons (.set 1 (.lst false (.cons (.tup .nil) .nil))) (.cons (.loop (.name 2) (.rng1 (.loc 0)) (.cons (.set 3 (.lst true .nil)) (.cons (.loop (.name 4) (.ex (.loc 1)) (.cons (.set 5 (.bin false .add (.con (.int 1)) (.bi false .maxL (.cons (.bin false .add (.lst false (.cons (.neg (.con (.int 1))) .nil)) (.bi false .list (.cons (.loc 4) .nil))) .nil)))) (.cons (.set 3 (.bin true .add (.loc 3) (.lc false (.bin false .add (.loc 4) (.tup (.cons (.loc 6) .nil))) [6] (.name 6) (.rng1 (.loc 5)) .none))) (.cons (.loop (.name 7) (.rng1 (.bin false .add (.loc 5) (.con (.int 1)))) (.cons (.expr (.mt false .append (.loc 3) (.cons (.bin false .add (.bi false .tuple (.cons (.lc false (.bin false .add (.loc 8) (.bi false .int (.cons (.cmp .ge (.loc 8) (.loc 7)) .nil))) [8] (.name 8) (.ex (.loc 4)) .none) .nil)) (.tup (.cons (.loc 7) .nil))) .nil))) .nil)) .nil)))) (.cons (.frz 3) (.cons (.set 1 (.loc 3)) .nil))))) (.cons (.ret (.bi false .sorted (.cons (.loc 1) .nil))) .nil)))
def d54 : Def := ⟨1, 9, b54, true⟩
/-- _law_way_orders(): 0:order -/
def b55 : Ss := (.cons (.ret (.lc false (.loc 0) [0] (.name 0) (.ex (.call 54 (.cons (.con (.int 4)) .nil))) (.some (.and (.cmp .lt (.idx (.loc 0) (.con (.int 0))) (.idx (.loc 0) (.con (.int 1)))) (.cmp .lt (.idx (.loc 0) (.con (.int 2))) (.idx (.loc 0) (.con (.int 3)))))))) .nil)
def d55 : Def := ⟨0, 1, b55, true⟩
/-- _law_four_sayings(most): 0:most 1:pairs 2:some 3:pair 4:ties 5:found -/
def b56 : Ss := (.cons (.par [1, 2] (.cons (.lst false (.cons (.tup (.cons (.con (.int 0)) (.cons (.con (.int 1)) .nil))) (.cons (.tup (.cons (.con (.int 0)) (.cons (.con (.int 2)) .nil))) (.cons (.tup (.cons (.con (.int 0)) (.cons (.con (.int 3)) .nil))) (.cons (.tup (.cons (.con (.int 1)) (.cons (.con (.int 2)) .nil))) (.cons (.tup (.cons (.con (.int 1)) (.cons (.con (.int 3)) .nil))) (.cons (.tup (.cons (.con (.int 2)) (.cons (.con (.int 3)) .nil))) .nil))))))) (.cons (.lst false (.cons (.tup .nil) .nil)) .nil))) (.cons (.loop (.name 3) (.ex (.loc 1)) (.cons (.set 2 (.bin false .add (.loc 2) (.lc false (.bin false .add (.loc 4) (.tup (.cons (.loc 3) .nil))) [4] (.name 4) (.ex (.loc 2)) (.some (.cmp .lt (.bi false .len (.cons (.loc 4) .nil)) (.loc 0)))))) .nil)) (.cons (.set 5 (.lst false .nil)) (.cons (.loop (.name 4) (.ex (.loc 2)) (.cons (.set 5 (.bin false .add (.bin false .add (.bin false .add (.loc 5) (.lst false (.cons (.tup (.cons (.loc 4) (.cons (.con .none) .nil))) .nil))) (.lc false (.tup (.cons (.loc 4) (.cons (.loc 3) .nil))) [3] (.name 3) (.ex (.loc 1)) .none)) (.lc false (.tup (.cons (.loc 4) (.cons (.rev false (.loc 3)) .nil))) [3] (.name 3) (.ex (.loc 1)) .none))) .nil)) (.cons (.ret (.loc 5)) .nil)))))
def d56 : Def := ⟨1, 6, b56, true⟩
/-- _law_kept_lots(sayings, orders): 0:sayings 1:orders 2:found 3:saying 4:k -/
def b57 : Ss := (.cons (.set 2 (.lst true .nil)) (.cons (.loop (.name 3) (.ex (.loc 0)) (.cons (.expr (.mt false .append (.loc 2) (.cons (.bi false .sum (.cons (.lc false (.bin false .shl (.con (.int 1)) (.loc 4)) [4] (.name 4) (.rng1 (.bi false .len (.cons (.loc 1) .nil))) (.some (.call 10 (.cons (.loc 3) (.cons (.idx (.loc 1) (.loc 4)) .nil))))) .nil)) .nil))) .nil)) (.cons (.frz 2) (.cons (.ret (.loc 2)) .nil))))
def d57 : Def := ⟨2, 5, b57, true⟩
/-- _law_hull_by(lot, kept): 0:lot 1:kept 2:whole 3:left 4:k 5:one -/
def b58 : Ss := (.cons (.par [2, 3] (.cons (.bi false .sum (.cons (.lc false (.bin false .shl (.con (.int 1)) (.loc 4)) [4] (.name 4) (.ex (.loc 0)) .none) .nil)) (.cons (.bin false .sub (.bin false .shl (.con (.int 1)) (.con (.int 13))) (.con (.int 1))) .nil))) (.cons (.loop (.name 5) (.ex (.loc 1)) (.cons (.set 3 (.ite (.cmp .eq (.bin false .band (.loc 5) (.loc 2)) (.loc 2)) (.bin false .band (.loc 3) (.loc 5)) (.loc 3))) .nil)) (.cons (.ret (.bi false .tuple (.cons (.lc false (.loc 4) [4] (.name 4) (.rng1 (.con (.int 13))) (.some (.cmp .eq (.bin false .band (.bin false .shr (.loc 3) (.loc 4)) (.con (.int 1))) (.con (.int 1))))) .nil))) .nil)))
def d58 : Def := ⟨2, 6, b58, true⟩
/-- law(script): 0:script 1:source 2:orders 3:sayings 4:kept 5:wide 6:one 7:plain 8:saying 9:clear 10:lap 11:lot 12:way 13:some 14:left 15:turn 16:k 17:hull 18:told 19:due -/
def b59 : Ss := (.cons (.par [1, 2] (.cons (.call 5 (.cons (.loc 0) .nil)) (.cons (.call 55 .nil) .nil))) (.cons (.set 3 (.call 56 (.cons (.con (.int 6)) .nil))) (.cons (.set 4 (.call 57 (.cons (.loc 3) (.cons (.loc 2) .nil)))) (.cons (.set 5 (.lc false (.loc 6) [6] (.name 6) (.ex (.loc 4)) (.some (.cmp .lt (.bin false .add (.loc 6) (.con (.int 1))) (.bin false .shl (.con (.int 1)) (.con (.int 13))))))) (.cons (.set 7 (.lc false (.loc 6) [6, 8] (.cons (.name 6) (.cons (.name 8) .nil)) (.zip false (.loc 4) (.loc 3)) (.some (.and (.cmp .eq (.idx (.loc 8) (.con (.int 0))) (.tup .nil)) (.isNN (.idx (.loc 8) (.con (.int 1)))))))) (.cons (.set 9 (.bin false .add (.loc 7) (.lc false (.loc 6) [6, 8] (.cons (.name 6) (.cons (.name 8) .nil)) (.zip false (.loc 4) (.loc 3)) (.some (.and (.cmp .eq (.bi false .len (.cons (.idx (.loc 8) (.con (.int 0))) .nil)) (.con (.int 1))) (.isN (.idx (.loc 8) (.con (.int 1))))))))) (.cons (.loop (.name 10) (.rng1 (.con (.int 12))) (.cons (.set 11 (.call 51 (.cons (.loc 1) .nil))) (.cons (.set 12 (.call 6 (.cons (.loc 1) (.cons (.con (.int 4)) .nil)))) (.cons (.ite (.cmp .gt (.loc 12) (.con (.int 0))) (.cons (.set 13 (.idx (.lst false (.cons (.loc 5) (.cons (.loc 9) (.cons (.loc 7) .nil)))) (.bin false .sub (.loc 12) (.con (.int 1))))) (.cons (.set 14 (.bin false .sub (.bin false .shl (.con (.int 1)) (.con (.int 13))) (.con (.int 1)))) (.cons (.loop (.name 15) (.rng1 (.bin false .add (.con (.int 1)) (.call 6 (.cons (.loc 1) (.cons (.con (.int 4)) .nil))))) (.cons (.set 14 (.bin false .band (.loc 14) (.call 7 (.cons (.loc 1) (.cons (.loc 13) .nil))))) .nil)) (.cons (.set 11 (.bi false .tuple (.cons (.lc false (.loc 16) [16] (.name 16) (.rng1 (.con (.int 13))) (.some (.cmp .eq (.bin false .band (.bin false .shr (.loc 14) (.loc 16)) (.con (.int 1))) (.con (.int 1))))) .nil))) .nil)))) .nil) (.cons (.set 17 (.call 58 (.cons (.loc 11) (.cons (.loc 4) .nil)))) (.cons (.set 18 (.lst false (.cons (.call 38 (.cons (.loc 11) .nil)) (.cons (.call 39 (.cons (.loc 11) .nil)) (.cons (.call 42 (.cons (.loc 11) .nil)) (.cons (.call 43 (.cons (.loc 11) .nil)) (.cons (.call 39 (.cons (.loc 17) .nil)) .nil))))))) (.cons (.set 19 (.lst false (.cons (.loc 17) (.cons (.cmp .eq (.loc 17) (.loc 11)) (.cons (.cmp .eq (.call 58 (.cons (.loc 11) (.cons (.loc 9) .nil))) (.loc 11)) (.cons (.cmp .eq (.call 58 (.cons (.loc 11) (.cons (.loc 7) .nil))) (.loc 11)) (.cons (.con (.bool true)) .nil))))))) (.cons (.ite (.cmp .ne (.bi false .repr (.cons (.loc 18) .nil)) (.bi false .repr (.cons (.loc 19) .nil))) (.cons (.ret (.con (.bool false))) .nil) .nil) .nil)))))))) (.cons (.ret (.con (.bool true))) .nil))))))))
def d59 : Def := ⟨1, 20, b59, false⟩
/-- parting(one, other): 0:one 1:other 2:u 3:v -/
def b60 : Ss := (.cons (.loop (.name 2) (.rng1 (.bi false .len (.cons (.loc 0) .nil))) (.cons (.loop (.name 3) (.rng1 (.bi false .len (.cons (.loc 0) .nil))) (.cons (.ite (.cmp .ne (.cmp .le (.idx (.loc 0) (.loc 2)) (.idx (.loc 0) (.loc 3))) (.cmp .le (.idx (.loc 1) (.loc 2)) (.idx (.loc 1) (.loc 3)))) (.cons (.ret (.tup (.cons (.tup .nil) (.cons (.tup (.cons (.loc 2) (.cons (.loc 3) .nil))) .nil)))) .nil) .nil) .nil)) .nil)) (.cons (.ret (.con .none)) .nil))
def d60 : Def := ⟨2, 4, b60, true⟩
/-- _law_alike_placing(source, placing): 0:source 1:placing 2:levels 3:here 4:far 5:level 6:one -/
def b61 : Ss := (.cons (.par [2, 3, 4] (.cons (.sset false (.loc 1)) (.cons (.bin false .sub (.call 6 (.cons (.loc 0) (.cons (.con (.int 9)) .nil))) (.con (.int 9))) (.cons (.dct [] .nil) .nil)))) (.cons (.loop (.name 5) (.ex (.loc 2)) (.cons (.set 3 (.bin false .add (.bin false .add (.loc 3) (.con (.int 1))) (.call 6 (.cons (.loc 0) (.cons (.call 7 (.cons (.loc 0) (.cons (.lst false (.cons (.con (.int 1)) (.cons (.con (.int 5)) (.cons (.bin false .pow (.con (.int 10)) (.con (.int 20))) .nil)))) .nil))) .nil))))) (.cons (.sub (.loc 4) (.loc 5) (.loc 3)) .nil))) (.cons (.ret (.bi false .tuple (.cons (.lc false (.idx (.loc 4) (.loc 6)) [6] (.name 6) (.ex (.loc 1)) .none) .nil))) .nil)))
def d61 : Def := ⟨2, 7, b61, false⟩
/-- _law_is_saying(n, value): 0:n 1:value 2:pairs 3:pair 4:one 5:ties 6:a 7:b -/
def b62 : Ss := (.cons (.ite (.or (.not (.isi (.loc 1) [.tuple])) (.or (.cmp .ne (.bi false .len (.cons (.loc 1) .nil)) (.con (.int 2))) (.not (.isi (.idx (.loc 1) (.con (.int 0))) [.tuple])))) (.cons (.ret (.con (.bool false))) .nil) .nil) (.cons (.set 2 (.bin false .add (.bi false .list (.cons (.idx (.loc 1) (.con (.int 0))) .nil)) (.ite (.isNN (.idx (.loc 1) (.con (.int 1)))) (.lst false (.cons (.idx (.loc 1) (.con (.int 1))) .nil)) (.lst false .nil)))) (.cons (.loop (.name 3) (.ex (.loc 2)) (.cons (.ite (.or (.not (.isi (.loc 3) [.tuple])) (.or (.cmp .ne (.bi false .len (.cons (.loc 3) .nil)) (.con (.int 2))) (.cmp .eq (.idx (.loc 3) (.con (.int 0))) (.idx (.loc 3) (.con (.int 1)))))) (.cons (.ret (.con (.bool false))) .nil) .nil) (.cons (.ite (.cmp .ne (.lc false (.loc 4) [4] (.name 4) (.ex (.loc 3)) (.some (.or (.isi (.loc 4) [.bool]) (.or (.not (.isi (.loc 4) [.int])) (.not (.cmp2 .le .lt (.con (.int 0)) (.loc 4) (.loc 0))))))) (.lst false .nil)) (.cons (.ret (.con (.bool false))) .nil) .nil) .nil))) (.cons (.set 5 (.bi false .list (.cons (.idx (.loc 1) (.con (.int 0))) .nil))) (.cons (.ret (.and (.cmp .eq (.loc 5) (.sset false (.loc 5))) (.cmp .eq (.lc false (.con (.int 1)) [6, 7] (.cons (.name 6) (.cons (.name 7) .nil)) (.ex (.loc 5)) (.some (.cmp .gt (.loc 6) (.loc 7)))) (.lst false .nil)))) .nil)))))
def d62 : Def := ⟨2, 8, b62, true⟩
/-- law(script): 0:script 1:source 2:lap 3:n 4:one 5:other 6:way 7:k 8:is_one 9:kept 10:told 11:look 12:saying -/
def b63 : Ss := (.cons (.set 1 (.call 5 (.cons (.loc 0) .nil))) (.cons (.loop (.name 2) (.rng1 (.con (.int 12))) (.cons (.set 3 (.bin false .add (.con (.int 1)) (.call 6 (.cons (.loc 1) (.cons (.con (.int 9)) .nil))))) (.cons (.set 4 (.call 12 (.cons (.loc 1) (.cons (.loc 3) .nil)))) (.cons (.par [5, 6] (.cons (.call 61 (.cons (.loc 1) (.cons (.loc 4) .nil))) (.cons (.call 6 (.cons (.loc 1) (.cons (.con (.int 3)) .nil))) .nil))) (.cons (.ite (.cmp .eq (.loc 6) (.con (.int 1))) (.cons (.set 7 (.call 6 (.cons (.loc 1) (.cons (.loc 3) .nil)))) (.cons (.set 5 (.bin false .add (.bin false .add (.slc false (.loc 5) .none (.some (.loc 7))) (.tup (.cons (.bin false .add (.idx (.loc 5) (.loc 7)) (.call 7 (.cons (.loc 1) (.cons (.lst false (.cons (.con (.int 1)) (.cons (.neg (.con (.int 1))) (.cons (.bin false .pow (.con (.int 10)) (.con (.int 21))) .nil)))) .nil)))) .nil))) (.slc false (.loc 5) (.some (.bin false .add (.loc 7) (.con (.int 1)))) .none))) .nil)) .nil) (.cons (.set 5 (.ite (.cmp .eq (.loc 6) (.con (.int 2))) (.call 12 (.cons (.loc 1) (.cons (.loc 3) .nil))) (.loc 5))) (.cons (.par [8, 9, 10] (.cons (.cmp .eq (.call 9 (.cons (.loc 4) .nil)) (.call 9 (.cons (.loc 5) .nil))) (.cons (.bi false .repr (.cons (.lst false (.cons (.loc 4) (.cons (.loc 5) .nil))) .nil)) (.cons (.call 60 (.cons (.loc 4) (.cons (.loc 5) .nil))) .nil)))) (.cons (.ite (.or (.cmp .ne (.isN (.loc 10)) (.loc 8)) (.or (.cmp .ne (.bi false .repr (.cons (.call 60 (.cons (.loc 4) (.cons (.loc 5) .nil))) .nil)) (.bi false .repr (.cons (.loc 10) .nil))) (.cmp .ne (.bi false .repr (.cons (.lst false (.cons (.loc 4) (.cons (.loc 5) .nil))) .nil)) (.loc 9)))) (.cons (.ret (.con (.bool false))) .nil) .nil) (.cons (.ite (.cmp .ne (.cmp .eq (.call 4 (.cons (.loc 4) .nil)) (.call 4 (.cons (.loc 5) .nil))) (.loc 8)) (.cons (.ret (.con (.bool false))) .nil) .nil) (.cons (.ite (.isNN (.loc 10)) (.cons (.ite (.or (.not (.call 62 (.cons (.loc 3) (.cons (.loc 10) .nil)))) (.cmp .eq (.call 10 (.cons (.loc 10) (.cons (.loc 4) .nil))) (.call 10 (.cons (.loc 10) (.cons (.loc 5) .nil))))) (.cons (.ret (.con (.bool false))) .nil) .nil) (.cons (.ite (.cmp .ne (.bi false .repr (.cons (.lst false (.cons (.call 0 (.cons (.loc 10) (.cons (.loc 4) .nil))) (.cons (.call 0 (.cons (.loc 10) (.cons (.loc 5) .nil))) .nil))) .nil)) (.bi false .repr (.cons (.lst false (.cons (.call 10 (.cons (.loc 10) (.cons (.loc 4) .nil))) (.cons (.call 10 (.cons (.loc 10) (.cons (.loc 5) .nil))) .nil))) .nil))) (.cons (.ret (.con (.bool false))) .nil) .nil) .nil)) .nil) (.cons (.loop (.name 11) (.rng1 (.ite (.and (.loc 8) (.cmp .gt (.loc 3) (.con (.int 1)))) (.con (.int 4)) (.con (.int 0)))) (.cons (.set 12 (.call 11 (.cons (.loc 1) (.cons (.loc 3) (.cons (.con (.int 3)) .nil))))) (.cons (.ite (.cmp .ne (.bi false .repr (.cons (.lst false (.cons (.call 0 (.cons (.loc 12) (.cons (.loc 4) .nil))) (.cons (.call 0 (.cons (.loc 12) (.cons (.loc 5) .nil))) .nil))) .nil)) (.bi false .repr (.cons (.bin false .mul (.lst false (.cons (.call 10 (.cons (.loc 12) (.cons (.loc 4) .nil))) .nil)) (.con (.int 2))) .nil))) (.cons (.ret (.con (.bool false))) .nil) .nil) .nil))) .nil))))))))))) (.cons (.ret (.and (.isN (.call 60 (.cons (.tup .nil) (.cons (.tup .nil) .nil)))) (.and (.isN (.call 60 (.cons (.tup (.cons (.con (.int 5)) .nil)) (.cons (.tup (.cons (.neg (.con (.int 1))) .nil)) .nil)))) (.isNN (.call 60 (.cons (.tup (.cons (.con (.int 0)) (.cons (.con (.int 0)) .nil))) (.cons (.tup (.cons (.con (.int 0)) (.cons (.con (.int 1)) .nil))) .nil))))))) .nil)))
def d63 : Def := ⟨1, 13, b63, false⟩
abbrev f_keeps : Nat := 0
abbrev f_broken : Nat := 1
abbrev f_first_broken : Nat := 2
abbrev f_keeps_book : Nat := 3
abbrev f_order_of : Nat := 4
abbrev f_law_source : Nat := 5
abbrev f_law_pick : Nat := 6
abbrev f_law_of : Nat := 7
abbrev f_law_mixed : Nat := 8
abbrev f_law_order_of : Nat := 9
abbrev f_law_keeps : Nat := 10
abbrev f_law_draw_saying : Nat := 11
abbrev f_law_draw_placing : Nat := 12
abbrev f_law_draw_book : Nat := 13
abbrev f_law_14 : Nat := 14
abbrev f_turned_15 : Nat := 15
abbrev f_mirrored : Nat := 16
abbrev f_turned_book : Nat := 17
abbrev f_law_18 : Nat := 18
abbrev f_renamed : Nat := 19
abbrev f_renamed_book : Nat := 20
abbrev f_beside : Nat := 21
abbrev f_together_22 : Nat := 22
abbrev f_left_of : Nat := 23
abbrev f_law_keeps_all : Nat := 24
abbrev f_law_renamed : Nat := 25
abbrev f_law_26 : Nat := 26
abbrev f_way_order : Nat := 27
abbrev f_way_by : Nat := 28
abbrev f_way_of : Nat := 29
abbrev f_turned_30 : Nat := 30
abbrev f_turned_lot : Nat := 31
abbrev f_about : Nat := 32
abbrev f_about_lot : Nat := 33
abbrev f_ties_of : Nat := 34
abbrev f_tied : Nat := 35
abbrev f_refusing : Nat := 36
abbrev f_refusing_saying : Nat := 37
abbrev f_hull_of_lot : Nat := 38
abbrev f_is_said : Nat := 39
abbrev f_is_later_never : Nat := 40
abbrev f_is_tied_never : Nat := 41
abbrev f_is_clear : Nat := 42
abbrev f_is_plain : Nat := 43
abbrev f_sayings_of_lot : Nat := 44
abbrev f_places_about : Nat := 45
abbrev f_spread : Nat := 46
abbrev f_together_47 : Nat := 47
abbrev f_three_placed : Nat := 48
abbrev f_law_49 : Nat := 49
abbrev f_together_lots : Nat := 50
abbrev f_law_some_lot : Nat := 51
abbrev f_law_stretches : Nat := 52
abbrev f_law_53 : Nat := 53
abbrev f_law_orders : Nat := 54
abbrev f_law_way_orders : Nat := 55
abbrev f_law_four_sayings : Nat := 56
abbrev f_law_kept_lots : Nat := 57
abbrev f_law_hull_by : Nat := 58
abbrev f_law_59 : Nat := 59
abbrev f_parting : Nat := 60
abbrev f_law_alike_placing : Nat := 61
abbrev f_law_is_saying : Nat := 62
abbrev f_law_63 : Nat := 63
def gdl_0 : List (Nat × Def) := [(0, d0), (1, d1), (2, d2), (3, d3), (4, d4), (5, d5), (6, d6), (7, d7), (8, d8), (9, d9), (10, d10), (11, d11), (12, d12), (13, d13), (14, d14), (15, d15), (16, d16), (17, d17), (18, d18), (19, d19), (20, d20), (21, d21), (22, d22), (23, d23), (24, d24)]
def gdl_1 : List (Nat × Def) := [(25, d25), (26, d26), (27, d27), (28, d28), (29, d29), (30, d30), (31, d31), (32, d32), (33, d33), (34, d34), (35, d35), (36, d36), (37, d37), (38, d38), (39, d39), (40, d40), (41, d41), (42, d42), (43, d43), (44, d44), (45, d45), (46, d46), (47, d47), (48, d48), (49, d49)]
def gdl_2 : List (Nat × Def) := [(50, d50), (51, d51), (52, d52), (53, d53), (54, d54), (55, d55), (56, d56), (57, d57), (58, d58), (59, d59), (60, d60), (61, d61), (62, d62), (63, d63)]
def gdl : List (Nat × Def) := gdl_0 ++ gdl_1 ++ gdl_2
def gdefs (f : Nat) : Option Def := gdl.lookup f
def c0 : D := .tuple [.tuple [.int (0), .int (1), .int (0), .int (1)], .tuple [.int (0), .int (1), .int (0), .int (2)], .tuple [.int (0), .int (1), .int (1), .int (2)], .tuple [.int (0), .int (1), .int (2), .int (3)], .tuple [.int (0), .int (2), .int (0), .int (1)], .tuple [.int (0), .int (2), .int (1), .int (2)], .tuple [.int (0), .int (2), .int (1), .int (3)], .tuple [.int (0), .int (3), .int (1), .int (2)], .tuple [.int (1), .int (2), .int (0), .int (1)], .tuple [.int (1), .int (2), .int (0), .int (2)], .tuple [.int (1), .int (2), .int (0), .int (3)], .tuple [.int (1), .int (3), .int (0), .int (2)], .tuple [.int (2), .int (3), .int (0), .int (1)]]
def c1 : D := .tuple [.tuple [.int (0), .int (1)], .tuple [.int (0), .int (2)], .tuple [.int (0), .int (3)], .tuple [.int (1), .int (0)], .tuple [.int (1), .int (2)], .tuple [.int (1), .int (3)], .tuple [.int (2), .int (0)], .tuple [.int (2), .int (1)], .tuple [.int (2), .int (3)], .tuple [.int (3), .int (0)], .tuple [.int (3), .int (1)], .tuple [.int (3), .int (2)]]
def ggl_0 : List (Nat × D) := [(0, c0), (1, c1)]
def ggl : List (Nat × D) := ggl_0
def gglo (i : Nat) : Option D := ggl.lookup i
theorem gd0 : gdefs 0 = some d0 := rfl
theorem gd1 : gdefs 1 = some d1 := rfl
theorem gd2 : gdefs 2 = some d2 := rfl
theorem gd3 : gdefs 3 = some d3 := rfl
theorem gd4 : gdefs 4 = some d4 := rfl
theorem gd5 : gdefs 5 = some d5 := rfl
theorem gd6 : gdefs 6 = some d6 := rfl
theorem gd7 : gdefs 7 = some d7 := rfl
theorem gd8 : gdefs 8 = some d8 := rfl
theorem gd9 : gdefs 9 = some d9 := rfl
theorem gd10 : gdefs 10 = some d10 := rfl
theorem gd11 : gdefs 11 = some d11 := rfl
theorem gd12 : gdefs 12 = some d12 := rfl
theorem gd13 : gdefs 13 = some d13 := rfl
theorem gd14 : gdefs 14 = some d14 := rfl
theorem gd15 : gdefs 15 = some d15 := rfl
theorem gd16 : gdefs 16 = some d16 := rfl
theorem gd17 : gdefs 17 = some d17 := rfl
theorem gd18 : gdefs 18 = some d18 := rfl
theorem gd19 : gdefs 19 = some d19 := rfl
theorem gd20 : gdefs 20 = some d20 := rfl
theorem gd21 : gdefs 21 = some d21 := rfl
theorem gd22 : gdefs 22 = some d22 := rfl
theorem gd23 : gdefs 23 = some d23 := rfl
theorem gd24 : gdefs 24 = some d24 := rfl
theorem gd25 : gdefs 25 = some d25 := rfl
theorem gd26 : gdefs 26 = some d26 := rfl
theorem gd27 : gdefs 27 = some d27 := rfl
theorem gd28 : gdefs 28 = some d28 := rfl
theorem gd29 : gdefs 29 = some d29 := rfl
theorem gd30 : gdefs 30 = some d30 := rfl
theorem gd31 : gdefs 31 = some d31 := rfl
theorem gd32 : gdefs 32 = some d32 := rfl
theorem gd33 : gdefs 33 = some d33 := rfl
theorem gd34 : gdefs 34 = some d34 := rfl
theorem gd35 : gdefs 35 = some d35 := rfl
theorem gd36 : gdefs 36 = some d36 := rfl
theorem gd37 : gdefs 37 = some d37 := rfl
theorem gd38 : gdefs 38 = some d38 := rfl
theorem gd39 : gdefs 39 = some d39 := rfl
theorem gd40 : gdefs 40 = some d40 := rfl
theorem gd41 : gdefs 41 = some d41 := rfl
theorem gd42 : gdefs 42 = some d42 := rfl
theorem gd43 : gdefs 43 = some d43 := rfl
theorem gd44 : gdefs 44 = some d44 := rfl
theorem gd45 : gdefs 45 = some d45 := rfl
theorem gd46 : gdefs 46 = some d46 := rfl
theorem gd47 : gdefs 47 = some d47 := rfl
theorem gd48 : gdefs 48 = some d48 := rfl
theorem gd49 : gdefs 49 = some d49 := rfl
theorem gd50 : gdefs 50 = some d50 := rfl
theorem gd51 : gdefs 51 = some d51 := rfl
theorem gd52 : gdefs 52 = some d52 := rfl
theorem gd53 : gdefs 53 = some d53 := rfl
theorem gd54 : gdefs 54 = some d54 := rfl
theorem gd55 : gdefs 55 = some d55 := rfl
theorem gd56 : gdefs 56 = some d56 := rfl
theorem gd57 : gdefs 57 = some d57 := rfl
theorem gd58 : gdefs 58 = some d58 := rfl
theorem gd59 : gdefs 59 = some d59 := rfl
theorem gd60 : gdefs 60 = some d60 := rfl
theorem gd61 : gdefs 61 = some d61 := rfl
theorem gd62 : gdefs 62 = some d62 := rfl
theorem gd63 : gdefs 63 = some d63 := rfl
end Ev
set_option Elab.async false
set_option linter.all false
set_option maxRecDepth 100000
/-! EvL: what the laws' own draws do: the source, picks. -/
namespace Ev
open PySem PySem.Spec PyProof.Rows L2

/-! ### a word for results -/
def Ok {α : Type} (r : R α) (P : α → Sto → Prop) : Prop := ∃ a st, r = .ok a st ∧ P a st
theorem Ok.ok {α : Type} {a : α} {st : Sto} {P : α → Sto → Prop} (h : P a st) : Ok (.ok a st) P := ⟨a, st, rfl, h⟩
theorem Ok.bind {α β : Type} {r : R α} {f : α → Sto → R β} {P : α → Sto → Prop} {Q : β → Sto → Prop} (h : Ok r P) (g : ∀ a st, P a st → Ok (f a st) Q) : Ok (r.bind f) Q := by
  obtain ⟨a, st, rfl, p⟩ := h
  exact g a st p
theorem Ok.mono {α : Type} {r : R α} {P Q : α → Sto → Prop} (h : Ok r P) (g : ∀ a st, P a st → Q a st) : Ok r Q := by
  obtain ⟨a, st, e, p⟩ := h
  exact ⟨a, st, e, g a st p⟩
theorem Ok.eq {α : Type} {r : R α} {P : α → Sto → Prop} {a : α} {st : Sto} (e : r = .ok a st) (h : P a st) : Ok r P := ⟨a, st, e, h⟩
@[simp] theorem bind_ok {α β : Type} {a : α} {st : Sto} {f : α → Sto → R β} : (R.ok a st).bind f = f a st := rfl
@[simp] theorem ofO_some {α : Type} {a : α} {st : Sto} : R.ofO (some a) st = .ok a st := rfl
@[simp] theorem calm_ok' {α : Type} {a : α} {st : Sto} : (R.ok a st).calm = .ok a st := rfl

section
variable {st : Sto} {i j : Int} {r : Bool}
@[simp] theorem truth_bool {b : Bool} : truthV (.d (.bool b)) st = some b := rfl
@[simp] theorem truth_int : truthV (.d (.int i)) st = some (i != 0) := rfl
@[simp] theorem truth_none : truthV (.d .none) st = some false := rfl
@[simp] theorem cmp_gt : cmpV .gt (.d (.int i)) (.d (.int j)) st = some (decide (j < i)) := rfl
@[simp] theorem cmp_lt : cmpV .lt (.d (.int i)) (.d (.int j)) st = some (decide (i < j)) := rfl
@[simp] theorem cmp_le : cmpV .le (.d (.int i)) (.d (.int j)) st = some (decide (i ≤ j)) := rfl
@[simp] theorem cmp_ge : cmpV .ge (.d (.int i)) (.d (.int j)) st = some (decide (j ≤ i)) := rfl
@[simp] theorem bin_add : binV r .add (.d (.int i)) (.d (.int j)) st = .ok (.d (.int (i + j))) st := rfl
@[simp] theorem bin_sub : binV r .sub (.d (.int i)) (.d (.int j)) st = .ok (.d (.int (i - j))) st := rfl
theorem bin_mul (h : mulOk i j = true) : binV r .mul (.d (.int i)) (.d (.int j)) st = .ok (.d (.int (i * j))) st := by
  show R.ofO (((if mulOk i j = true then some (i * j) else none).map PyData.int).map Val.d) st = _
  rw [if_pos h]
  rfl
theorem bin_mod (h : 0 < j) : binV r .mod (.d (.int i)) (.d (.int j)) st = .ok (.d (.int (i % j))) st := by
  show R.ofO (((if 0 < j then some (i % j) else none).map PyData.int).map Val.d) st = _
  rw [if_pos h]
  rfl
theorem bin_fdiv (h : 0 < j) (h2 : j < 1073741824) : binV r .fdiv (.d (.int i)) (.d (.int j)) st = .ok (.d (.int (i / j))) st := by
  show R.ofO (((if 0 < j ∧ (j < 1073741824 ∨ bits 9000 j = true) then some (i / j) else none).map PyData.int).map Val.d) st = _
  rw [if_pos ⟨h, .inl h2⟩]
  rfl
theorem mulOk_l (h : smallI i = true) : mulOk i j = true := by unfold mulOk; rw [h]; rfl
theorem mulOk_r (h : smallI j = true) : mulOk i j = true := by unfold mulOk; rw [h, Bool.or_true]; rfl
theorem smallI_of (h1 : -18446744073709551616 < i) (h2 : i < 18446744073709551616) : smallI i = true := by
  unfold smallI
  rw [decide_eq_true (show -(2 ^ 64) < i by omega), decide_eq_true (show i < 2 ^ 64 by omega)]
  rfl
@[simp] theorem bi_int : biV r .int [.d (.int i)] st = .ok (.d (.int i)) st := rfl
@[simp] theorem bi_intB {b : Bool} : biV r .int [.d (.bool b)] st = .ok (.d (.int (if b then 1 else 0))) st := rfl
@[simp] theorem bi_abs : biV r .abs [.d (.int i)] st = .ok (.d (.int (if i < 0 then -i else i))) st := rfl
@[simp] theorem bi_max2 : biV r .max2 [.d (.int i), .d (.int j)] st = .ok (.d (.int (if j > i then j else i))) st := rfl
@[simp] theorem bi_min2 : biV r .min2 [.d (.int i), .d (.int j)] st = .ok (.d (.int (if j < i then j else i))) st := rfl
theorem bi_len {x : Val} {n : Nat} (h : lenOf x st = some n) : biV r .len [x] st = .ok (.d (.int n)) st := by
  show R.ofO ((lenOf x st).map _) st = _
  rw [h]
  rfl
@[simp] theorem len_tup {xs : List D} : lenOf (.d (.tuple xs)) st = some xs.length := by
  show some (xs.map Val.d).length = _
  rw [List.length_map]
@[simp] theorem len_lst {xs : List D} : lenOf (.d (.list xs)) st = some xs.length := by
  show some (xs.map Val.d).length = _
  rw [List.length_map]
end
theorem ss_nx {K : Ck} {s : S} {ss : Ss} {en en1 : Slots} {st st1 : Sto} (h : evS K s en st = .ok (.nx en1) st1) : evSs K (.cons s ss) en st = evSs K ss en1 st1 := by
  show (evS K s en st).bind _ = _
  rw [h]
  rfl
theorem ss_rt {K : Ck} {s : S} {ss : Ss} {en : Slots} {v : Val} {st st1 : Sto} (h : evS K s en st = .ok (.rt v) st1) : evSs K (.cons s ss) en st = .ok (.rt v) st1 := by
  show (evS K s en st).bind _ = _
  rw [h]
  rfl
/-! ### loops -/
theorem forS_ok {f : Val → Slots → Sto → R Fl} (P : List D → Slots → Sto → Prop) (Q : Fl → Sto → Prop)
    (hs : ∀ x xs en st, P (x :: xs) en st → Ok (f (.d x) en st) fun fl st1 => (∃ en1, (fl = .nx en1 ∨ fl = .ct en1) ∧ P xs en1 st1) ∨ (∃ en1, fl = .bk en1 ∧ Q (.nx en1) st1) ∨ ∃ v, fl = .rt v ∧ Q (.rt v) st1)
    (hn : ∀ en st, P [] en st → Q (.nx en) st) : ∀ (xs : List D) (en : Slots) (st : Sto), P xs en st → Ok (forS f xs en st) Q
  | [], en, st, p => .ok (hn en st p)
  | x :: xs, en, st, p => by
    obtain ⟨fl, st1, e, h⟩ := hs x xs en st p
    show Ok ((f (.d x) en st).bind _) Q
    rw [e, bind_ok]
    rcases h with ⟨en1, e1 | e1, p1⟩ | ⟨en1, rfl, q⟩ | ⟨v, rfl, q⟩
    · subst e1; exact forS_ok P Q hs hn xs en1 st1 p1
    · subst e1; exact forS_ok P Q hs hn xs en1 st1 p1
    · exact .ok q
    · exact .ok q
theorem mapS_pure {α : Type} {f : Val → Sto → R (List α)} {g : D → List α} {st : Sto} : ∀ {xs : List D}, (∀ x ∈ xs, f (.d x) st = .ok (g x) st) → mapS f xs st = .ok (xs.flatMap g) st
  | [], _ => rfl
  | x :: xs, h => by
    show (f (.d x) st).bind _ = _
    rw [h x List.mem_cons_self, bind_ok, mapS_pure fun y hy => h y (List.mem_cons_of_mem _ hy)]
    rfl
theorem mapS_map {β : Type} {enc : β → D} {f : Val → Sto → R (List Val)} {g : β → D} {st : Sto} : ∀ {zs : List β}, (∀ z ∈ zs, f (.d (enc z)) st = .ok [.d (g z)] st) → mapS f (zs.map enc) st = .ok ((zs.map g).map .d) st
  | [], _ => rfl
  | z :: zs, h => by
    show (f (.d (enc z)) st).bind _ = _
    rw [h z List.mem_cons_self, bind_ok, mapS_map (g := g) fun y hy => h y (List.mem_cons_of_mem _ hy)]
    rfl
theorem mapS_filter {β : Type} {enc : β → D} {f : Val → Sto → R (List Val)} {p : β → Bool} {g : β → D} {st : Sto} : ∀ {zs : List β}, (∀ z ∈ zs, f (.d (enc z)) st = .ok (if p z then [.d (g z)] else []) st) → mapS f (zs.map enc) st = .ok (((zs.filter p).map g).map .d) st
  | [], _ => rfl
  | z :: zs, h => by
    show (f (.d (enc z)) st).bind _ = _
    rw [h z List.mem_cons_self, bind_ok, mapS_filter (p := p) (g := g) fun y hy => h y (List.mem_cons_of_mem _ hy), List.filter_cons]
    cases p z <;> rfl
theorem mapS_ok {α : Type} {f : Val → Sto → R (List α)} (P : List D → List α → Sto → Prop)
    (hs : ∀ x xs acc st, P (x :: xs) acc st → Ok (f (.d x) st) fun ys st1 => P xs (acc ++ ys) st1) : ∀ (xs : List D) (acc : List α) (st : Sto), P xs acc st → Ok (mapS f xs st) fun ys st1 => P [] (acc ++ ys) st1
  | [], acc, st, p => .ok (by rw [List.append_nil]; exact p)
  | x :: xs, acc, st, p => by
    obtain ⟨ys, st1, e, h⟩ := hs x xs acc st p
    show Ok ((f (.d x) st).bind _) _
    rw [e, bind_ok]
    obtain ⟨zs, st2, e2, h2⟩ := mapS_ok P hs xs (acc ++ ys) st1 h
    rw [e2, bind_ok]
    exact .ok (by rw [← List.append_assoc]; exact h2)
theorem frzAll_d {n : Nat} {st : Sto} : ∀ ds : List D, frzAll (frz n) (ds.map .d) st = some (ds, st)
  | [] => rfl
  | d :: ds => by
    show (match frz n (.d d) st with
      | some (d, st1) => match frzAll (frz n) (ds.map .d) st1 with
        | some (ds, st2) => some (d :: ds, st2)
        | none => none
      | none => none) = _
    have e : frz n (.d d) st = some (d, st) := by unfold frz; rfl
    rw [e]
    show (match frzAll (frz n) (ds.map .d) st with
        | some (ds, st2) => some (d :: ds, st2)
        | none => none) = _
    rw [frzAll_d ds]
theorem mkL_d {ds : List D} {st : Sto} (h : ds.length ≤ 16777216) : mkL false (ds.map .d) st = .ok (.d (.list ds)) st := by
  unfold mkL
  rw [if_pos (by rw [List.length_map]; exact h), if_neg (by decide), frzAll_d]
theorem mkL_new {xs : List Val} {st : Sto} (h : xs.length ≤ 16777216) : mkL true xs st = .ok (.ref st.length) (st ++ [.lst xs]) := by
  unfold mkL
  rw [if_pos (by exact h), if_pos rfl]
theorem mkT_d {ds : List D} {st : Sto} (h : ds.length ≤ 16777216) : mkT (ds.map .d) st = .ok (.d (.tuple ds)) st := by
  unfold mkT
  rw [if_pos (by rw [List.length_map]; exact h), frzAll_d]
theorem ev_lc {K : Ck} {r : Bool} {x : E} {own : List Nat} {g : Tg} {it : I} {c : Eo} {en : Slots} {st st1 st2 st3 : Sto} {zs : List D} {ys : List Val} {v : Val} (hi : evI K it en st = .ok (.stat zs) st1) (hm : mapS (lcF K x own g c en) zs st1 = .ok ys st2) (hk : mkL r ys st2 = .ok v st3) :
    evE K (.lc r x own g it c) en st = .ok v st3 := by
  have e : evE K (.lc r x own g it c) en st = ((evI K it en st).bind fun s st1 => ((mapSrc (lcF K x own g c en) s st1).bind (mkL r)).calm) := by
    simp only [evE] <;> rfl
  rw [e, hi, bind_ok]
  show ((mapS _ _ _).bind _).calm = _
  rw [hm, bind_ok, hk]
  rfl
theorem erase_map {α β : Type} (f : α → β) : ∀ (l : List α) (i : Nat), (l.map f).eraseIdx i = (l.eraseIdx i).map f
  | [], i => by simp
  | _ :: _, 0 => rfl
  | a :: l, i + 1 => congrArg (f a :: ·) (erase_map f l i)
theorem perm_at {α : Type} : ∀ {l : List α} {i : Nat} (h : i < l.length), (l[i] :: l.eraseIdx i).Perm l
  | _ :: _, 0, _ => .refl _
  | a :: l, i + 1, h => (List.Perm.swap a _ _).trans ((perm_at (l := l) (i := i) (by simpa using h)).cons a)
theorem ev_rng1 {K : Ck} {a : E} {en : Slots} {st st1 : Sto} {i : Int} (h : evE K a en st = .ok (.d (.int i)) st1) (h1 : -16777216 < i) (h2 : i < 16777216) : evI K (.rng1 a) en st = .ok (.stat (rangeI 0 i.toNat)) st1 := by
  have e : evI K (.rng1 a) en st = ((evE K a en st).bind fun x st1 => .ofO ((intV x).bind fun i => if -16777216 < i ∧ i < 16777216 then some (.stat (rangeI 0 i.toNat)) else none) st1) := by
    simp only [evI]
  have e2 : (if -16777216 < i ∧ i < 16777216 then some (Src.stat (rangeI 0 i.toNat)) else none) = some (Src.stat (rangeI 0 i.toNat)) := if_pos ⟨h1, h2⟩
  rw [e, h, bind_ok]
  show R.ofO (if -16777216 < i ∧ i < 16777216 then some (Src.stat (rangeI 0 i.toNat)) else none) st1 = _
  rw [e2, ofO_some]
theorem ev_rng2 {K : Ck} {a b : E} {en : Slots} {st st1 st2 : Sto} {i j : Int} (h : evE K a en st = .ok (.d (.int i)) st1) (h' : evE K b en st1 = .ok (.d (.int j)) st2) (h1 : -16777216 < i) (h2 : i < 16777216) (h3 : -16777216 < j) (h4 : j < 16777216) :
    evI K (.rng2 a b) en st = .ok (.stat (rangeI i (j - i).toNat)) st2 := by
  have e : evI K (.rng2 a b) en st = ((evE K a en st).bind fun x st1 => (evE K b en st1).bind fun y st2 => match intV x, intV y with
    | some i, some j => if -16777216 < i ∧ i < 16777216 ∧ -16777216 < j ∧ j < 16777216 then .ok (.stat (rangeI i (j - i).toNat)) st2 else .no
    | _, _ => .no) := by
    simp only [evI] <;> rfl
  have e2 : (if -16777216 < i ∧ i < 16777216 ∧ -16777216 < j ∧ j < 16777216 then R.ok (Src.stat (rangeI i (j - i).toNat)) st2 else .no) = .ok (Src.stat (rangeI i (j - i).toNat)) st2 := if_pos ⟨h1, h2, h3, h4⟩
  rw [e, h, bind_ok, h', bind_ok]
  show (if -16777216 < i ∧ i < 16777216 ∧ -16777216 < j ∧ j < 16777216 then R.ok (Src.stat (rangeI i (j - i).toNat)) st2 else .no) = _
  rw [e2]
/-! ### the source of draws: it stands at place 2, its numbers at place 1, the script at place 0 -/
def srcD (c l m t : Val) : List (Key × Val) := [(.inr "cells", c), (.inr "left", l), (.inr "mixed", m), (.inr "turn", t)]
abbrev iv (i : Int) : Val := .d (.int i)
def SS (ns : List D) (cs : List Int) (l m t : Int) (rest : Sto) : Sto := .scr ns :: .lst (cs.map iv) :: .dK (srcD (.ref 1) (iv l) (iv m) (iv t)) :: rest
theorem valK_cells {c l m t : Val} : valK (.inr "cells") (srcD c l m t) = some c := rfl
theorem valK_left {c l m t : Val} : valK (.inr "left") (srcD c l m t) = some l := rfl
theorem valK_mixed {c l m t : Val} : valK (.inr "mixed") (srcD c l m t) = some m := rfl
theorem valK_turn {c l m t : Val} : valK (.inr "turn") (srcD c l m t) = some t := rfl
theorem putK_left {c l m t v : Val} : putK (.inr "left") v (srcD c l m t) = srcD c v m t := rfl
theorem putK_mixed {c l m t v : Val} : putK (.inr "mixed") v (srcD c l m t) = srcD c l v t := rfl
theorem putK_turn {c l m t v : Val} : putK (.inr "turn") v (srcD c l m t) = srcD c l m v := rfl
theorem src_len {c l m t : Val} : (srcD c l m t).length = 4 := rfl
section
variable {K : Ck} {ns : List D} {cs : List Int} {l m t many : Int} {rest : Sto} {en : Slots}
theorem ss0 : (SS ns cs l m t rest)[2]? = some (.dK (srcD (.ref 1) (iv l) (iv m) (iv t))) := rfl
theorem ss1 : (SS ns cs l m t rest)[1]? = some (.lst (cs.map iv)) := rfl
theorem ix_cells : idxV (.ref 2) (.d (.str "cells")) (SS ns cs l m t rest) = some (.ref 1) := rfl
theorem ix_left : idxV (.ref 2) (.d (.str "left")) (SS ns cs l m t rest) = some (iv l) := rfl
theorem ix_mixed : idxV (.ref 2) (.d (.str "mixed")) (SS ns cs l m t rest) = some (iv m) := rfl
theorem ix_turn : idxV (.ref 2) (.d (.str "turn")) (SS ns cs l m t rest) = some (iv t) := rfl
theorem sub_left {v : Int} : subV (.ref 2) (.d (.str "left")) (iv v) (SS ns cs l m t rest) = some (SS ns cs v m t rest) := rfl
theorem sub_mixed {v : Int} : subV (.ref 2) (.d (.str "mixed")) (iv v) (SS ns cs l m t rest) = some (SS ns cs l v t rest) := rfl
theorem sub_turn {v : Int} : subV (.ref 2) (.d (.str "turn")) (iv v) (SS ns cs l m t rest) = some (SS ns cs l m v rest) := rfl
theorem len_cells : lenOf (.ref 1) (SS ns cs l m t rest) = some cs.length := by
  show some (cs.map iv).length = _
  rw [List.length_map]
theorem pop_cells {c : Int} : mtV .pop0 (.ref 1) [] (SS ns (cs ++ [c]) l m t rest) = .ok (iv c) (SS ns cs l m t rest) := by
  simp [mtV, SS, iv]
def pickC : E := (.and (.cmp .gt (.loc 1) (.con (.int 1))) (.and (.cmp .lt (.idx (.loc 0) (.con (.str "left"))) (.con (.int 2))) (.cmp .gt (.bi false .len (.cons (.idx (.loc 0) (.con (.str "cells"))) .nil)) (.con (.int 0)))))
def pickB : Ss := (.cons (.sub (.loc 0) (.con (.str "left")) (.mt false .pop0 (.idx (.loc 0) (.con (.str "cells"))) .nil)) .nil)
def penv (many : Int) (x y : Option Val) : Slots := [some (.ref 2), some (iv many), x, y]
theorem pickC_ok {x y : Option Val} : evE K pickC (penv many x y) (SS ns cs l m t rest) = .ok (.d (.bool (decide (1 < many) && (decide (l < 2) && decide (0 < (cs.length : Int)))))) (SS ns cs l m t rest) := by
  unfold pickC penv
  have hl := bi_len (r := false) (len_cells (ns := ns) (cs := cs) (l := l) (m := m) (t := t) (rest := rest))
  by_cases h1 : 1 < many
  · by_cases h2 : l < 2
    · simp [evE, evEs, h1, h2, ix_left, ix_cells, hl]
    · simp [evE, evEs, h1, h2, ix_left]
  · simp [evE, evEs, h1]
theorem pick_while {x y : Option Val} : ∀ (n : Nat) (cs : List Int) (l : Int), cs.length < n →
    Ok (whileF (fun en1 st1 => (evE K pickC en1 st1).bind fun x st2 => .ofO (truthV x st2) st2) (fun en1 st1 => evSs K pickB en1 st1) n (penv many x y) (SS ns cs l m t rest))
      fun fl st' => fl = .nx (penv many x y) ∧ ∃ cs' l', cs'.length ≤ cs.length ∧ st' = SS ns cs' l' m t rest
  | 0, _, _, h => absurd h (Nat.not_lt_zero _)
  | n + 1, cs, l, h => by
    unfold whileF
    rw [pickC_ok]
    by_cases hc : (decide (1 < many) && (decide (l < 2) && decide (0 < (cs.length : Int)))) = true
    · rw [hc]
      obtain ⟨cs0, c, rfl⟩ : ∃ cs0 c, cs = cs0 ++ [c] := by
        rcases List.eq_nil_or_concat cs with e | ⟨a, b, e⟩
        · subst e
          simp at hc
        · exact ⟨a, b, by rw [e, List.concat_eq_append]⟩
      have hb : evSs K pickB (penv many x y) (SS ns (cs0 ++ [c]) l m t rest) = .ok (.nx (penv many x y)) (SS ns cs0 c m t rest) := by
        have hk : kindOk .pop0 (.ref 1) (SS ns (cs0 ++ [c]) l m t rest) = true := rfl
        simp only [pickB, penv, evSs, evS, evE, evEs, List.getElem?_cons_zero, ix_cells, bind_ok, ofO_some, hk, if_true, pop_cells, sub_left]
      simp only [bind_ok, truth_bool, ofO_some, if_true, hb]
      refine (pick_while n cs0 c (by rw [List.length_append] at h; simp at h; omega)).mono fun fl st' ⟨e, cs', l', hl, e2⟩ => ⟨e, cs', l', by rw [List.length_append]; omega, e2⟩
    · rw [Bool.not_eq_true] at hc
      rw [hc]
      exact ⟨_, _, rfl, rfl, cs, l, Nat.le_refl _, rfl⟩
theorem calls_run {defs : Nat → Option Def} {glo : Nat → Option D} {k f : Nat} {d : Def} {vs : List Val} {st : Sto} (h : defs f = some d) : calls defs glo (k + 1) f vs st = runDef ⟨calls defs glo k, glo⟩ d vs st := by
  show (match defs f with
    | some d => runDef ⟨calls defs glo k, glo⟩ d vs st
    | none => R.no) = _
  rw [h]
theorem run_imp {d : Def} {vs : List Val} {st : Sto} (h1 : vs.length = d.np) (h2 : d.pure = false) : runDef K d vs st = finish (evSs K d.body (startE d.ns vs) st) := by
  unfold runDef
  rw [if_pos h1, h2]
  rfl
theorem fin_rt {v : Val} {st : Sto} : finish (.ok (.rt v) st) = .ok v st := rfl
theorem max1 : (if many > 1 then many else 1) = max 1 many := by
  by_cases h : many > 1
  · rw [if_pos h]; omega
  · rw [if_neg h]; omega
theorem pick_ok {k : Nat} (hm : many < 1073741824) (hc : cs.length < 100000) : Ok (calls gdefs gglo (k + 1) 6 [.ref 2, .d (.int many)] (SS ns cs l m t rest)) fun v st' => ∃ w cs' l' m' t', v = .d (.int w) ∧ st' = SS ns cs' l' m' t' rest ∧ cs'.length ≤ cs.length ∧ 0 ≤ w ∧ (w < many ∨ (w = 0 ∧ many < 2)) := by
  rw [calls_run gd6, run_imp rfl rfl]
  generalize (⟨calls gdefs gglo k, gglo⟩ : Ck) = K
  show Ok (finish (evSs K b6 (penv many none none) (SS ns cs l m t rest))) _
  have hw := pick_while (K := K) (ns := ns) (m := m) (t := t) (rest := rest) (many := many) (x := none) (y := none) 100000 cs l hc
  obtain ⟨fl, st1, e1, rfl, cs', l', hl, rfl⟩ := hw
  have e2 : evS K (.whl pickC pickB) (penv many none none) (SS ns cs l m t rest) = .ok (.nx (penv many none none)) (SS ns cs' l' m t rest) := e1
  have hM : (0 : Int) < max 1 many := by omega
  have hM2 : max 1 many < (1073741824 : Int) := by omega
  have e3 : ∀ ss, evSs K (.cons (.whl pickC pickB) ss) (penv many none none) (SS ns cs l m t rest) = evSs K ss (penv many none none) (SS ns cs' l' m t rest) := fun ss => by
    simp only [evSs, e2, bind_ok]
  by_cases hb : many < 2 ∨ 1 < l'
  · refine Ok.eq (a := .d (.int (l' % max 1 many))) (st := SS ns cs' (l' / max 1 many) m t rest) ?_ ⟨_, cs', _, m, t, rfl, rfl, hl, Int.emod_nonneg _ (by omega), ?_⟩
    · refine (congrArg finish (e3 _)).trans ?_
      by_cases h1 : many < 2
      · simp [penv, evSs, evS, evE, evEs, ix_left, h1, max1, bin_fdiv hM hM2, bin_mod hM, sub_left, fin_rt]
      · have h2 : 1 < l' := by omega
        simp [penv, evSs, evS, evE, evEs, ix_left, h1, h2, max1, bin_fdiv hM hM2, bin_mod hM, sub_left, fin_rt]
    · have := Int.emod_lt_of_pos l' hM
      by_cases h1 : many < 2
      · right
        refine ⟨?_, h1⟩
        have e : max 1 many = 1 := by omega
        rw [e, Int.emod_one]
      · left
        omega
  · have h1 : ¬ many < 2 := by omega
    have h2 : ¬ 1 < l' := by omega
    have hp : 0 < many := by omega
    have m1 : mulOk (t + 1) 104729 = true := mulOk_r rfl
    have m2 : mulOk (t + 1) 17 = true := mulOk_r rfl
    have hx : ∀ x : Int, mulOk (x % 998244353) (x % 998244353) = true := fun x => mulOk_l (smallI_of (by omega) (by omega))
    have hq1 : (0 : Int) < 998244353 := by decide
    have hq2 : (0 : Int) < 2147483647 := by decide
    have hq3 : (0 : Int) < 16 := by decide
    have hq4 : (16 : Int) < 1073741824 := by decide
    refine Ok.eq (a := .d (.int ((((m + (t + 1) * 104729) % 998244353 * ((m + (t + 1) * 104729) % 998244353) + (t + 1) * 17) % 2147483647 / 16) % many))) (st := SS ns cs' l' (((m + (t + 1) * 104729) % 998244353 * ((m + (t + 1) * 104729) % 998244353) + (t + 1) * 17) % 2147483647) (t + 1) rest) ?_ ⟨_, cs', _, _, _, rfl, rfl, hl, Int.emod_nonneg _ (by omega), .inl (Int.emod_lt_of_pos _ hp)⟩
    refine (congrArg finish (e3 _)).trans ?_
    simp [penv, evSs, evS, evE, evEs, ix_left, ix_turn, ix_mixed, h1, h2, sub_turn, sub_mixed, fin_rt, bin_mul m1, bin_mul m2, bin_mul (hx _), bin_mod hq1, bin_mod hq2, bin_mod hp, bin_fdiv hq3 hq4]
theorem source_ok {k : Nat} {zs : List Int} (hz : zs.length ≤ 63) : ∃ cs m, cs.length = zs.length ∧ calls gdefs gglo (k + 1) 5 [.ref 0] [.scr (zs.map PyData.int)] = .ok (.ref 2) (SS (zs.map PyData.int) cs 1 m 0 []) := by
  rw [calls_run gd5, run_imp rfl rfl]
  generalize (⟨calls gdefs gglo k, gglo⟩ : Ck) = K
  have hm : (0 : Int) < 2147483629 := by decide
  have h1 : ∀ x : Int, mulOk x 69069 = true := fun x => mulOk_r rfl
  have h2 : ∀ x : Int, mulOk x 31 = true := fun x => mulOk_r rfl
  have lp : Ok (evS K (.loop (.name 2) (.ex (.loc 0)) (.cons (.set 1 (.bin false .mod (.bi false .int (.cons (.bin false .add (.bin false .add (.bin false .mul (.loc 1) (.con (.int 69069))) (.bin false .mul (.loc 2) (.con (.int 31)))) (.con (.int 5))) .nil)) (.con (.int 2147483629)))) .nil)) [some (.ref 0), some (iv 11), none] [.scr (zs.map PyData.int)])
      fun fl st' => st' = [.scr (zs.map PyData.int)] ∧ ∃ m c, fl = .nx [some (.ref 0), some (iv m), c] := by
    simp only [evS, evI, evE, List.getElem?_cons_zero, bind_ok, srcOf, ofO_some, forSrc]
    refine forS_ok (fun xs en st => (∀ x ∈ xs, ∃ i : Int, x = .int i) ∧ st = [.scr (zs.map PyData.int)] ∧ ∃ m c, en = [some (.ref 0), some (iv m), c]) _ (fun x xs en st ⟨hx, e1, m, c, e2⟩ => ?_) (fun en st ⟨_, e1, m, c, e2⟩ => ⟨e1, m, c, by rw [e2]⟩) _ _ _ ⟨fun x hx => ?_, rfl, 11, none, rfl⟩
    · subst e1 e2
      obtain ⟨i, rfl⟩ := hx x List.mem_cons_self
      refine ⟨_, _, by simp [asg, evSs, evS, evE, evEs, bin_mul (h1 _), bin_mul (h2 _), bin_mod hm]; exact ⟨rfl, rfl⟩, .inl ⟨_, .inl rfl, fun y hy => hx y (List.mem_cons_of_mem _ hy), rfl, _, _, rfl⟩⟩
    · obtain ⟨i, _, rfl⟩ := List.mem_map.mp hx
      exact ⟨i, rfl⟩
  obtain ⟨fl, st1, e1, rfl, m, c, rfl⟩ := lp
  refine ⟨(zs.map fun i => if i < 0 then -i else i).reverse, m, by simp, ?_⟩
  show finish (evSs K b5 [some (.ref 0), none, none] [.scr (zs.map PyData.int)]) = _
  unfold b5
  rw [ss_nx (en1 := [some (.ref 0), some (iv 11), none]) (st1 := [.scr (zs.map PyData.int)]) rfl, ss_nx e1]
  have hl : evE K (.lc false (.bi false .abs (.cons (.loc 2) .nil)) [2] (.name 2) (.ex (.loc 0)) .none) [some (.ref 0), some (iv m), c] [.scr (zs.map PyData.int)] = .ok (.d (.list ((zs.map fun i => if i < 0 then -i else i).map PyData.int))) [.scr (zs.map PyData.int)] := by
    simp only [evE, evI, List.getElem?_cons_zero, bind_ok, srcOf, ofO_some, mapSrc, wipeE, List.set_cons_succ, List.set_cons_zero, asg, evC]
    rw [mapS_map (g := fun i => PyData.int (if i < 0 then -i else i)) fun i _ => ?_]
    · rw [bind_ok, mkL_d (by simp; omega), List.map_map]
      rfl
    · simp [evEs, evE]
  rw [ss_rt (v := .ref 2) (st1 := SS (zs.map PyData.int) (zs.map fun i => if i < 0 then -i else i).reverse 1 m 0 [])]
  · rfl
  · have hr : evE K (.rev true (.lc false (.bi false .abs (.cons (.loc 2) .nil)) [2] (.name 2) (.ex (.loc 0)) .none)) [some (.ref 0), some (iv m), c] [.scr (zs.map PyData.int)] = .ok (.ref 1) [.scr (zs.map PyData.int), .lst ((zs.map fun i => if i < 0 then -i else i).reverse.map iv)] := by
      have e : ∀ a, evE K (.rev true a) [some (.ref 0), some (iv m), c] [.scr (zs.map PyData.int)] = (evE K a [some (.ref 0), some (iv m), c] [.scr (zs.map PyData.int)]).bind fun x st1 => revV true x st1 := fun a => by simp only [evE]
      rw [e, hl, bind_ok]
      show mkL true _ _ = _
      rw [mkL_new (by simp; omega)]
      simp [List.map_reverse]
    have he : evEs K (.cons (.rev true (.lc false (.bi false .abs (.cons (.loc 2) .nil)) [2] (.name 2) (.ex (.loc 0)) .none)) (.cons (.con (.int 1)) (.cons (.loc 1) (.cons (.con (.int 0)) .nil)))) [some (.ref 0), some (iv m), c] [.scr (zs.map PyData.int)] = .ok [.ref 1, iv 1, iv m, iv 0] [.scr (zs.map PyData.int), .lst ((zs.map fun i => if i < 0 then -i else i).reverse.map iv)] := by
      show R.bind (evE K _ _ _) _ = _
      rw [hr]
      rfl
    have hd : evE K (.dct [.inr "cells", .inr "left", .inr "mixed", .inr "turn"] (.cons (.rev true (.lc false (.bi false .abs (.cons (.loc 2) .nil)) [2] (.name 2) (.ex (.loc 0)) .none)) (.cons (.con (.int 1)) (.cons (.loc 1) (.cons (.con (.int 0)) .nil))))) [some (.ref 0), some (iv m), c] [.scr (zs.map PyData.int)] = .ok (.ref 2) (SS (zs.map PyData.int) (zs.map fun i => if i < 0 then -i else i).reverse 1 m 0 []) := by
      show (R.bind (evEs K _ _ _) _).calm = _
      rw [he]
      rfl
    show R.bind (evE K _ _ _) _ = _
    rw [hd]
    rfl
end
end Ev
set_option Elab.async false
set_option linter.all false
set_option maxRecDepth 100000
/-! EvM: _law_of, _law_mixed. -/
namespace Ev
open PySem PySem.Spec PyProof.Rows L2

def HasS (st rest : Sto) : Prop := ∃ ns cs l m t, st = SS ns cs l m t rest ∧ cs.length ≤ 63
theorem HasS.len {st rest : Sto} (h : HasS st rest) : st.length = 3 + rest.length := by
  obtain ⟨ns, cs, l, m, t, rfl, _⟩ := h
  simp [SS]
  omega
theorem HasS.at_ {st rest : Sto} (h : HasS st rest) (i : Nat) : st[3 + i]? = rest[i]? := by
  obtain ⟨ns, cs, l, m, t, rfl, _⟩ := h
  rw [show 3 + i = i + 3 by omega]
  rfl
theorem HasS.set {st rest : Sto} (h : HasS st rest) (i : Nat) (c : Cell) : HasS (st.set (3 + i) c) (rest.set i c) := by
  obtain ⟨ns, cs, l, m, t, rfl, hc⟩ := h
  refine ⟨ns, cs, l, m, t, ?_, hc⟩
  rw [show 3 + i = i + 3 by omega]
  rfl
theorem HasS.push {st rest : Sto} (h : HasS st rest) (c : Cell) : HasS (st ++ [c]) (rest ++ [c]) := by
  obtain ⟨ns, cs, l, m, t, rfl, hc⟩ := h
  exact ⟨ns, cs, l, m, t, rfl, hc⟩
/-- a pick, whatever the source holds -/
theorem pick_any {k : Nat} {many : Int} {st rest : Sto} (hm : many < 1073741824) (h : HasS st rest) : Ok (calls gdefs gglo (k + 1) 6 [.ref 2, .d (.int many)] st) fun v st' => HasS st' rest ∧ ∃ w : Int, v = .d (.int w) ∧ 0 ≤ w ∧ (w < many ∨ (w = 0 ∧ many < 2)) := by
  obtain ⟨ns, cs, l, m, t, rfl, hc⟩ := h
  refine (pick_ok (k := k) hm (by omega)).mono fun v st' ⟨w, cs', l', m', t', e, e2, hl, h0, h1⟩ => ⟨⟨ns, cs', l', m', t', e2, by omega⟩, w, e, h0, h1⟩
/-- a list or a tuple of data -/
def SeqD (d : D) (xs : List D) : Prop := d = .list xs ∨ d = .tuple xs
theorem SeqD.seq {d : D} {xs : List D} (h : SeqD d xs) (st : Sto) : seqOf (.d d) st = some (xs.map .d) := by
  rcases h with rfl | rfl <;> rfl
theorem SeqD.len {d : D} {xs : List D} (h : SeqD d xs) (st : Sto) : lenOf (.d d) st = some xs.length := by
  rcases h with rfl | rfl
  · exact len_lst
  · exact len_tup
theorem ixN_of {n : Nat} {i : Int} (h0 : 0 ≤ i) (h1 : i < n) : L2.ixN n i = some i.toNat := by
  unfold L2.ixN
  rw [if_pos h0, if_pos h1]
theorem idx_seq {d : D} {xs : List D} {w : Int} {st : Sto} (h : SeqD d xs) (h0 : 0 ≤ w) (h1 : w < xs.length) : idxV (.d d) (.d (.int w)) st = some (.d (xs[w.toNat]'(by omega))) := by
  unfold idxV
  rw [h.seq st]
  simp only [List.length_map]
  rw [ixN_of h0 h1]
  simp
/-- one of some -/
theorem of_ok {k : Nat} {d : D} {xs : List D} {st rest : Sto} (hd : SeqD d xs) (hn : xs ≠ []) (hl : xs.length < 1073741824) (h : HasS st rest) : Ok (calls gdefs gglo (k + 2) 7 [.ref 2, .d d] st) fun v st' => HasS st' rest ∧ ∃ x ∈ xs, v = .d x := by
  rw [calls_run gd7, run_imp rfl rfl]
  have hp := pick_any (k := k) (many := xs.length) (by omega) h
  have hpos : 0 < xs.length := List.length_pos_iff.mpr hn
  obtain ⟨v, st1, e, h1, w, rfl, h0, h2⟩ := hp
  have hw : w < xs.length := by omega
  refine Ok.eq (a := .d (xs[w.toNat]'(by omega))) (st := st1) ?_ ⟨h1, _, List.getElem_mem _, rfl⟩
  show finish (evSs _ b7 [some (.ref 2), some (.d d)] st) = _
  unfold b7
  rw [ss_rt (v := .d (xs[w.toNat]'(by omega))) (st1 := st1)]
  · rfl
  · simp [evS, evE, evEs, bi_len (hd.len st), e, idx_seq hd h0 hw]
/-- mixed things -/
theorem mixed_ok {k : Nat} {d : D} {xs : List D} {st rest : Sto} (hd : SeqD d xs) (hl : xs.length < 1000) (h : HasS st rest) : Ok (calls gdefs gglo (k + 2) 8 [.ref 2, .d d] st) fun v st' => HasS st' (rest ++ [.lst []]) ∧ ∃ ys, ys.Perm xs ∧ v = .d (.list ys) := by
  rw [calls_run gd8, run_imp rfl rfl]
  generalize hK : (⟨calls gdefs gglo (k + 1), gglo⟩ : Ck) = K
  have hcall : ∀ {many : Int} {st rest : Sto}, many < 1073741824 → HasS st rest → Ok (K.call 6 [.ref 2, .d (.int many)] st) fun v st' => HasS st' rest ∧ ∃ w : Int, v = .d (.int w) ∧ 0 ≤ w ∧ (w < many ∨ (w = 0 ∧ many < 2)) := fun hm h => by
    subst hK
    exact pick_any hm h
  have h1 := h.push (.lst (xs.map .d))
  have e1 : evS K (.set 2 (.bi true .list (.cons (.loc 1) .nil))) [some (.ref 2), some (.d d), none, none] st = .ok (.nx [some (.ref 2), some (.d d), some (.ref st.length), none]) (st ++ [.lst (xs.map .d)]) := by
    simp [evS, evE, evEs, biV, hd.seq st, mkL_new (xs := xs.map Val.d) (st := st) (by simp; omega)]
  have hat : ∀ {st2 : Sto} {ls : List Val}, HasS st2 (rest ++ [.lst ls]) → st2[st.length]? = some (.lst ls) := fun {st2 ls} h2 => by
    rw [h.len, h2.at_]
    simp
  have hlen : ∀ {st2 : Sto} {ls : List Val}, HasS st2 (rest ++ [.lst ls]) → lenOf (.ref st.length) st2 = some ls.length := fun {st2 ls} h2 => by
    simp [lenOf, seqOf, lsOf, hat h2]
  have hkind : ∀ {st2 : Sto} {ls : List Val}, HasS st2 (rest ++ [.lst ls]) → kindOk .pop1 (.ref st.length) st2 = true := fun {st2 ls} h2 => by
    simp [kindOk, lsOf, hat h2]
  have e2 : Ok (evE K (.lc false (.mt false .pop1 (.loc 2) (.cons (.call 6 (.cons (.loc 0) (.cons (.bi false .len (.cons (.loc 2) .nil)) .nil))) .nil)) [3] (.name 3) (.rng1 (.bi false .len (.cons (.loc 2) .nil))) .none) [some (.ref 2), some (.d d), some (.ref st.length), none] (st ++ [.lst (xs.map .d)]))
      fun v st' => HasS st' (rest ++ [.lst []]) ∧ ∃ ys, ys.Perm xs ∧ v = .d (.list ys) := by
    have ei : evI K (.rng1 (.bi false .len (.cons (.loc 2) .nil))) [some (.ref 2), some (.d d), some (.ref st.length), none] (st ++ [.lst (xs.map .d)]) = .ok (.stat (rangeI 0 xs.length)) (st ++ [.lst (xs.map .d)]) := by
      have h3 := hlen h1
      rw [List.length_map] at h3
      exact ev_rng1 (i := (xs.length : Int)) (by simp [evE, evEs, bi_len h3]) (by omega) (by omega)
    have em := fun step => mapS_ok (f := lcF K (.mt false .pop1 (.loc 2) (.cons (.call 6 (.cons (.loc 0) (.cons (.bi false .len (.cons (.loc 2) .nil)) .nil))) .nil)) [3] (.name 3) .none [some (.ref 2), some (.d d), some (.ref st.length), none])
      (fun lp acc st' => ∃ ys left, acc = ys.map Val.d ∧ HasS st' (rest ++ [.lst (left.map .d)]) ∧ left.length = lp.length ∧ (ys ++ left).Perm xs) step (rangeI 0 xs.length) [] (st ++ [.lst (xs.map .d)]) ⟨[], xs, rfl, h1, (rangeI_len _ _).symm, .refl _⟩
    refine (fun em => ?_) (em fun x lp acc st' ⟨ys, left, ea, h2, hl2, hp⟩ => ?_)
    · obtain ⟨zs, st2, e2, ys, left, ea, h2, hl2, hp⟩ := em
      have e0 : left = [] := List.length_eq_zero_iff.mp (by simpa using hl2)
      subst e0
      rw [List.nil_append] at ea
      subst ea
      rw [List.append_nil] at hp
      exact Ok.eq (a := .d (.list ys)) (st := st2) (ev_lc ei e2 (mkL_d (by rw [hp.length_eq]; omega))) ⟨h2, ys, hp, rfl⟩
    · subst ea
      have hlt : left.length < 1073741824 := by
        have := hp.length_eq
        rw [List.length_append] at this
        omega
      have hpos : 0 < left.length := by rw [hl2]; exact Nat.succ_pos _
      obtain ⟨v, st3, e3, h3, w, rfl, h0, hw⟩ := hcall (many := (left.length : Int)) (by omega) h2
      have hw' : w < left.length := by omega
      have hlt2 : w.toNat < left.length := by omega
      refine Ok.eq (a := [.d (left[w.toNat])]) (st := st3.set st.length (.lst ((left.eraseIdx w.toNat).map .d))) ?_ ⟨ys ++ [left[w.toNat]], left.eraseIdx w.toNat, by simp, ?_, ?_, ?_⟩
      · have hle := hlen h2
        rw [List.length_map] at hle
        have hm : mtV .pop1 (.ref st.length) [.d (.int w)] st3 = .ok (.d (left[w.toNat])) (st3.set st.length (.lst ((left.eraseIdx w.toNat).map .d))) := by
          simp only [mtV, hat h3, List.length_map, ixN_of h0 hw', List.getElem?_map, List.getElem?_eq_getElem hlt2, Option.map_some, erase_map]
        simp only [lcF, asg, wipeE, List.set_cons_succ, List.set_cons_zero, evC, bind_ok, if_true, evE, List.getElem?_cons_succ, List.getElem?_cons_zero, hkind h2, evEs, bi_len hle, e3, hm]
      · have := h3.set rest.length (.lst ((left.eraseIdx w.toNat).map .d))
        rw [h.len]
        simpa using this
      · rw [List.length_eraseIdx_of_lt hlt2, hl2]
        rfl
      · refine .trans ?_ hp
        rw [List.append_assoc]
        exact (List.Perm.append_left ys (perm_at hlt2))
  obtain ⟨v, st2, e2, h2, ys, hp, rfl⟩ := e2
  refine Ok.eq (a := .d (.list ys)) (st := st2) ?_ ⟨h2, ys, hp, rfl⟩
  show finish (evSs K b8 [some (.ref 2), some (.d d), none, none] st) = _
  unfold b8
  rw [ss_nx e1, ss_rt (v := .d (.list ys)) (st1 := st2)]
  · rfl
  · show R.bind (evE K _ _ _) _ = _
    rw [e2]
    rfl
end Ev
set_option Elab.async false
set_option linter.all false
set_option maxRecDepth 100000
/-! EvP: plain data: what may be compared and shown; pure defs; more rules. -/
namespace Ev
open PySem PySem.Spec PyProof.Rows L2

/-! ### plain data -/
structure Pl (n b : Nat) (d : D) : Prop where
  lay : d.canLay0 = true
  dep : d.depth ≤ n
  sho : d.showable = true
  nod : d.hasDict = false
  sht : d.leavesShort 300 = true
  blk : d.bulk ≤ b
theorem Pl.mono {n b m c : Nat} {d : D} (h : Pl n b d) (h1 : n ≤ m) (h2 : b ≤ c) : Pl m c d := ⟨h.lay, Nat.le_trans h.dep h1, h.sho, h.nod, h.sht, Nat.le_trans h.blk h2⟩
theorem Pl.none {n b : Nat} : Pl n b .none := ⟨rfl, Nat.zero_le _, rfl, rfl, rfl, Nat.zero_le _⟩
theorem Pl.bool {n b : Nat} (k : Bool) : Pl n b (.bool k) := ⟨rfl, Nat.zero_le _, rfl, rfl, rfl, Nat.zero_le _⟩
theorem shown_int_len {i : Int} (h : i.natAbs.log2 < 200) : (PyData.shown (.int i)).length ≤ 300 := by
  have e := int_text_length_le (k := 200) (by decide) h
  show (Str.ofString (toString i)).length ≤ 300
  rw [PySem.ofString_length]
  omega
theorem Pl.int {n b : Nat} {i : Int} (h : i.natAbs.log2 < 200) : Pl n b (.int i) :=
  ⟨rfl, Nat.zero_le _, decide_eq_true (show i.natAbs.log2 < 1920 by omega), rfl, decide_eq_true (shown_int_len h), Nat.zero_le _⟩
theorem log2_small {i : Int} (h : i.natAbs < 10 ^ 60) : i.natAbs.log2 < 200 := by
  by_cases h0 : i.natAbs = 0
  · rw [h0]; decide
  · have := (Nat.log2_lt (k := 200) h0).mpr (Nat.lt_trans h (by decide))
    omega
theorem pl_all {n b : Nat} : ∀ {xs : List D}, (∀ x ∈ xs, Pl n b x) → PyData.canLayAll0 xs = true ∧ PyData.depthAll xs ≤ n ∧ PyData.showableAll xs = true ∧ PyData.hasDictAll xs = false ∧ PyData.leavesShortAll 300 xs = true ∧ PyData.bulkAll xs ≤ xs.length * (b + 1)
  | [], _ => ⟨rfl, Nat.zero_le _, rfl, rfl, rfl, Nat.zero_le _⟩
  | x :: xs, h => by
    have hx := h x List.mem_cons_self
    obtain ⟨h1, h2, h3, h4, h5, h6⟩ := pl_all fun y hy => h y (List.mem_cons_of_mem _ hy)
    refine ⟨?_, ?_, ?_, ?_, ?_, ?_⟩
    · show (PyData.canLay0 x && PyData.canLayAll0 xs) = true
      rw [hx.lay, h1]; rfl
    · show max (PyData.depth x) (PyData.depthAll xs) ≤ n
      have := hx.dep
      omega
    · show (PyData.showable x && PyData.showableAll xs) = true
      rw [hx.sho, h3]; rfl
    · show (PyData.hasDict x || PyData.hasDictAll xs) = false
      rw [hx.nod, h4]; rfl
    · show (PyData.leavesShort 300 x && PyData.leavesShortAll 300 xs) = true
      rw [hx.sht, h5]; rfl
    · show PyData.bulk x + 1 + PyData.bulkAll xs ≤ (xs.length + 1) * (b + 1)
      have := hx.blk
      rw [Nat.add_mul]
      omega
theorem Pl.tuple {n b : Nat} {xs : List D} (h : ∀ x ∈ xs, Pl n b x) : Pl (n + 1) (xs.length * (b + 1)) (.tuple xs) := by
  obtain ⟨h1, h2, h3, h4, h5, h6⟩ := pl_all h
  exact ⟨h1, Nat.succ_le_succ h2, h3, h4, h5, h6⟩
theorem Pl.list {n b : Nat} {xs : List D} (h : ∀ x ∈ xs, Pl n b x) : Pl (n + 1) (xs.length * (b + 1)) (.list xs) := by
  obtain ⟨h1, h2, h3, h4, h5, h6⟩ := pl_all h
  exact ⟨h1, Nat.succ_le_succ h2, h3, h4, h5, h6⟩
theorem Pl.shaped {n b : Nat} {d : D} (h : Pl n b d) (hn : n ≤ 60) : shapedB d = true := by
  show (d.canLay0 && decide (d.depth ≤ 64)) = true
  rw [h.lay, decide_eq_true (show d.depth ≤ 64 from Nat.le_trans h.dep (by omega))]
  rfl
theorem Pl.fits {n b : Nat} {d : D} (h : Pl n b d) (hb : b ≤ 50000) : d.shown.length ≤ sizeLine := by
  have e := PyData.shown_le_bulk 300 (by decide) d h.sht
  have e2 := h.blk
  have e3 : (300 + 2) * d.bulk ≤ 302 * 50000 := Nat.mul_le_mul (by omega) (by omega)
  show _ ≤ 16777216
  omega
theorem repr_pl {r : Bool} {x : Val} {d : D} {st : Sto} {n b : Nat} (hx : dv 8 x st = some d) (h : Pl n b d) (hn : n ≤ 60) (hb : b ≤ 50000) : biV r .repr [x] st = .ok (.d (.str d.shown)) st := by
  show (match dv 8 x st with
    | some d => if (d.showable && (!d.hasDict && (decide (d.depth ≤ 60) && decide (d.shown.length ≤ sizeLine)))) = true then R.ok (Val.d (.str d.shown)) st else R.no
    | none => R.no) = _
  rw [hx]
  show (if (d.showable && (!d.hasDict && (decide (d.depth ≤ 60) && decide (d.shown.length ≤ sizeLine)))) = true then R.ok (Val.d (.str d.shown)) st else .no) = _
  rw [h.sho, h.nod, decide_eq_true (Nat.le_trans h.dep hn), decide_eq_true (h.fits hb)]
  rfl
@[simp] theorem cmp_neS {x y : Str} {st : Sto} : cmpV .ne (.d (.str x)) (.d (.str y)) st = some (!decide (x = y)) := rfl
@[simp] theorem cmp_eqS {x y : Str} {st : Sto} : cmpV .eq (.d (.str x)) (.d (.str y)) st = some (decide (x = y)) := rfl
@[simp] theorem cmp_neI {i j : Int} {st : Sto} : cmpV .ne (.d (.int i)) (.d (.int j)) st = some (!(i == j)) := rfl
@[simp] theorem cmp_eqI {i j : Int} {st : Sto} : cmpV .eq (.d (.int i)) (.d (.int j)) st = some (i == j) := rfl
@[simp] theorem cmp_neB {i j : Bool} {st : Sto} : cmpV .ne (.d (.bool i)) (.d (.bool j)) st = some (!(i == j)) := rfl
@[simp] theorem cmp_eqB {i j : Bool} {st : Sto} : cmpV .eq (.d (.bool i)) (.d (.bool j)) st = some (i == j) := rfl
@[simp] theorem none_isN {x : D} : noneB (.d x) = match x with
  | .none => true
  | _ => false := by cases x <;> rfl
theorem bls_map {bs : List Bool} : allBls (bs.map fun b => Val.d (.bool b)) = some bs := by
  induction bs with
  | nil => rfl
  | cons b bs ih =>
    show (allBls (bs.map fun b => Val.d (.bool b))).map (b :: ·) = _
    rw [ih]
    rfl
theorem bi_any {r : Bool} {bs : List Bool} {st : Sto} : biV r .any [.d (.list (bs.map PyData.bool))] st = .ok (.d (.bool (bs.any id))) st := by
  show R.ofO ((allBls ((bs.map PyData.bool).map Val.d)).map fun bs => Val.d (.bool (bs.any id))) st = _
  rw [List.map_map, show (Val.d ∘ PyData.bool) = fun b => Val.d (.bool b) from rfl, bls_map]
  rfl
theorem bi_all {r : Bool} {bs : List Bool} {st : Sto} : biV r .all [.d (.list (bs.map PyData.bool))] st = .ok (.d (.bool (bs.all id))) st := by
  show R.ofO ((allBls ((bs.map PyData.bool).map Val.d)).map fun bs => Val.d (.bool (bs.all id))) st = _
  rw [List.map_map, show (Val.d ∘ PyData.bool) = fun b => Val.d (.bool b) from rfl, bls_map]
  rfl
/-! ### pure defs -/
theorem run_pure {K : Ck} {d : Def} {ds : List D} {st st0 : Sto} {x : D} (h1 : ds.length = d.np) (h2 : d.pure = true) (h : finish (evSs K d.body (startE d.ns (ds.map .d)) []) = .ok (.d x) st0) : runDef K d (ds.map .d) st = .ok (.d x) st := by
  unfold runDef
  rw [if_pos (by rw [List.length_map]; exact h1), h2, if_pos rfl, frzAll_d]
  show (match finish (evSs K d.body (startE d.ns (ds.map .d)) []) with
    | .ok v st0 => match frz 8 v st0 with
      | some (x, _) => R.ok (Val.d x) st
      | none => .no
    | _ => .no) = _
  rw [h]
  rfl
end Ev
set_option Elab.async false
set_option linter.all false
set_option maxRecDepth 100000
/-! EvK: sayings, placings: keeps and what leans on it. -/
namespace Ev
open PySem PySem.Spec PyProof.Rows L2

abbrev Two := Int × Int
structure Say where
  ties : List Two
  head : Option Two
def pr (p : Two) : D := .tuple [.int p.1, .int p.2]
def hd : Option Two → D
  | none => .none
  | some p => pr p
def encS (s : Say) : D := .tuple [.tuple (s.ties.map pr), hd s.head]
def encP (ps : List Int) : D := .tuple (ps.map PyData.int)
def encB (n : Int) (ss : List Say) : D := .tuple [.int n, .tuple (ss.map encS)]
def gt (ps : List Int) (a : Int) : Int := ps.getD a.toNat 0
def In (n : Nat) (p : Two) : Prop := 0 ≤ p.1 ∧ p.1 < n ∧ 0 ≤ p.2 ∧ p.2 < n
structure Say.Ok (s : Say) (n : Nat) : Prop where
  ties : ∀ p ∈ s.ties, In n p
  head : ∀ p, s.head = some p → In n p
  few : s.ties.length ≤ 10000
def keepsM (s : Say) (ps : List Int) : Bool := (s.ties.any fun p => !(gt ps p.1 == gt ps p.2)) || match s.head with
  | none => false
  | some p => decide (gt ps p.1 ≤ gt ps p.2)
section
variable {K : Ck} {k : Nat} {st : Sto} {ps : List Int} {s : Say}
theorem ix_pl {a : Int} (h0 : 0 ≤ a) (h1 : a < ps.length) : idxV (.d (encP ps)) (.d (.int a)) st = some (.d (.int (gt ps a))) := by
  have hs : SeqD (encP ps) (ps.map PyData.int) := .inr rfl
  rw [idx_seq hs h0 (by rw [List.length_map]; exact h1)]
  have h2 : a.toNat < ps.length := by omega
  simp [gt, List.getElem?_eq_getElem h2]
theorem ix_pr0 {p : Two} : idxV (.d (pr p)) (.d (.int 0)) st = some (.d (.int p.1)) := rfl
theorem ix_pr1 {p : Two} : idxV (.d (pr p)) (.d (.int 1)) st = some (.d (.int p.2)) := rfl
theorem keeps_end (hs : s.Ok ps.length) : evE K (.and (.isNN (.loc 3)) (.cmp .le (.idx (.loc 1) (.idx (.loc 3) (.con (.int 0)))) (.idx (.loc 1) (.idx (.loc 3) (.con (.int 1)))))) [some (.d (encS s)), some (.d (encP ps)), some (.d (.tuple (s.ties.map pr))), some (.d (hd s.head)), none, none] st =
    .ok (.d (.bool (match s.head with
      | none => false
      | some p => decide (gt ps p.1 ≤ gt ps p.2)))) st := by
  cases hh : s.head with
  | none => simp [evE, hd]
  | some p =>
    have h := hs.head p hh
    have h1 := ix_pl (st := st) h.1 h.2.1
    have h2 := ix_pl (st := st) h.2.2.1 h.2.2.2
    simp [evE, hd, ix_pr0, ix_pr1, h1, h2]
    simp [pr]
theorem keeps_run (hs : s.Ok ps.length) : calls gdefs gglo (k + 1) 0 [.d (encS s), .d (encP ps)] st = .ok (.d (.bool (keepsM s ps))) st := by
  rw [calls_run gd0]
  refine run_pure (ds := [encS s, encP ps]) (st0 := []) rfl rfl ?_
  generalize (⟨calls gdefs gglo k, gglo⟩ : Ck) = K
  show finish (evSs K b0 [some (.d (encS s)), some (.d (encP ps)), none, none, none, none] []) = _
  unfold b0
  have e1 : evS K (.unp (.cons (.name 2) (.cons (.name 3) .nil)) (.loc 0)) [some (.d (encS s)), some (.d (encP ps)), none, none, none, none] [] = .ok (.nx [some (.d (encS s)), some (.d (encP ps)), some (.d (.tuple (s.ties.map pr))), some (.d (hd s.head)), none, none]) [] := rfl
  have e2 : evE K (.lc false (.cmp .ne (.idx (.loc 1) (.loc 4)) (.idx (.loc 1) (.loc 5))) [4, 5] (.cons (.name 4) (.cons (.name 5) .nil)) (.ex (.loc 2)) .none) [some (.d (encS s)), some (.d (encP ps)), some (.d (.tuple (s.ties.map pr))), some (.d (hd s.head)), none, none] [] = .ok (.d (.list ((s.ties.map fun p => !(gt ps p.1 == gt ps p.2)).map PyData.bool))) [] := by
    refine ev_lc (zs := s.ties.map pr) rfl (mapS_map (g := fun p => PyData.bool !(gt ps p.1 == gt ps p.2)) fun p hp => ?_) ?_
    · have h := hs.ties p hp
      have h1 := ix_pl (st := ([] : Sto)) h.1 h.2.1
      have h2 := ix_pl (st := ([] : Sto)) h.2.2.1 h.2.2.2
      simp [lcF, pr, asg, wipeE, evC, evE, h1, h2]
    · rw [mkL_d, List.map_map]
      · rfl
      · rw [List.length_map]; have := hs.few; omega
  have e3 : evE K (.bi false .any (.cons (.lc false (.cmp .ne (.idx (.loc 1) (.loc 4)) (.idx (.loc 1) (.loc 5))) [4, 5] (.cons (.name 4) (.cons (.name 5) .nil)) (.ex (.loc 2)) .none) .nil)) [some (.d (encS s)), some (.d (encP ps)), some (.d (.tuple (s.ties.map pr))), some (.d (hd s.head)), none, none] [] = .ok (.d (.bool (s.ties.any fun p => !(gt ps p.1 == gt ps p.2)))) [] := by
    show R.bind (R.bind (evE K _ _ _) _) _ = _
    rw [e2]
    show biV false .any [Val.d (PyData.list ((s.ties.map fun p => !(gt ps p.1 == gt ps p.2)).map PyData.bool))] [] = _
    rw [bi_any, List.any_map]
    rfl
  have e4 := keeps_end (K := K) (st := []) (ps := ps) (s := s) hs
  rw [ss_nx e1]
  cases hb : s.ties.any fun p => !(gt ps p.1 == gt ps p.2) with
  | true =>
    rw [hb] at e3
    rw [ss_rt (v := .d (.bool true)) (st1 := [])]
    · unfold keepsM
      rw [hb]
      rfl
    · show R.bind (evE K _ _ _) _ = _
      rw [e3]
      rfl
  | false =>
    rw [hb] at e3
    rw [ss_nx (en1 := [some (.d (encS s)), some (.d (encP ps)), some (.d (.tuple (s.ties.map pr))), some (.d (hd s.head)), none, none]) (st1 := []), ss_rt (v := .d (.bool (keepsM s ps))) (st1 := [])]
    · rfl
    · show R.bind (evE K _ _ _) _ = _
      rw [e4]
      unfold keepsM
      rw [hb]
      rfl
    · show R.bind (evE K _ _ _) _ = _
      rw [e3]
      rfl
theorem eqv_nil {xs : List D} : PyData.eqv (.list xs) (.list []) = xs.isEmpty := by
  cases xs <;> rfl
theorem cmp_ne_nil {xs : List D} {n b : Nat} (h : ∀ x ∈ xs, Pl n b x) (hn : n ≤ 59) : cmpV .ne (.d (.list xs)) (.d (.list [])) st = some (!xs.isEmpty) := by
  have h1 := (Pl.list h).shaped (by omega)
  have h2 : shapedB (.list []) = true := rfl
  show (if (shapedB (.list xs) && shapedB (.list [])) = true then some (!PyData.eqv (.list xs) (.list [])) else none) = _
  rw [h1, h2, eqv_nil]
  rfl
theorem cmp_eq_nil {xs : List D} {n b : Nat} (h : ∀ x ∈ xs, Pl n b x) (hn : n ≤ 59) : cmpV .eq (.d (.list xs)) (.d (.list [])) st = some xs.isEmpty := by
  have h1 := (Pl.list h).shaped (by omega)
  have h2 : shapedB (.list []) = true := rfl
  show (if (shapedB (.list xs) && shapedB (.list [])) = true then some (PyData.eqv (.list xs) (.list [])) else none) = _
  rw [h1, h2, eqv_nil]
  rfl
theorem lkeeps_run (hs : s.Ok ps.length) : calls gdefs gglo (k + 1) 10 [.d (encS s), .d (encP ps)] st = .ok (.d (.bool (keepsM s ps))) st := by
  rw [calls_run gd10]
  refine run_pure (ds := [encS s, encP ps]) (st0 := []) rfl rfl ?_
  generalize (⟨calls gdefs gglo k, gglo⟩ : Ck) = K
  show finish (evSs K b10 [some (.d (encS s)), some (.d (encP ps)), none, none, none, none] []) = _
  unfold b10
  have e1 : evS K (.unp (.cons (.name 2) (.cons (.name 3) .nil)) (.loc 0)) [some (.d (encS s)), some (.d (encP ps)), none, none, none, none] [] = .ok (.nx [some (.d (encS s)), some (.d (encP ps)), some (.d (.tuple (s.ties.map pr))), some (.d (hd s.head)), none, none]) [] := rfl
  have e2 : evE K (.lc false (.con (.int 1)) [4, 5] (.cons (.name 4) (.cons (.name 5) .nil)) (.ex (.loc 2)) (.some (.cmp .ne (.idx (.loc 1) (.loc 4)) (.idx (.loc 1) (.loc 5))))) [some (.d (encS s)), some (.d (encP ps)), some (.d (.tuple (s.ties.map pr))), some (.d (hd s.head)), none, none] [] = .ok (.d (.list ((s.ties.filter fun p => !(gt ps p.1 == gt ps p.2)).map fun _ => PyData.int 1))) [] := by
    refine ev_lc (zs := s.ties.map pr) rfl (mapS_filter (p := fun p => !(gt ps p.1 == gt ps p.2)) (g := fun _ => PyData.int 1) fun p hp => ?_) ?_
    · have h := hs.ties p hp
      have h1 := ix_pl (st := ([] : Sto)) h.1 h.2.1
      have h2 := ix_pl (st := ([] : Sto)) h.2.2.1 h.2.2.2
      cases hg : (gt ps p.1 == gt ps p.2) <;> simp [lcF, pr, asg, wipeE, evC, evE, h1, h2, hg]
    · rw [mkL_d]
      have h1 := hs.few
      have h2 := List.length_filter_le (fun p => !(gt ps p.1 == gt ps p.2)) s.ties
      rw [List.length_map]
      omega
  have e5 : ((s.ties.filter fun p => !(gt ps p.1 == gt ps p.2)).map fun _ => PyData.int 1).isEmpty = !(s.ties.any fun p => !(gt ps p.1 == gt ps p.2)) := by
    generalize s.ties = l
    induction l with
    | nil => rfl
    | cons p l ih =>
      rw [List.filter_cons, List.any_cons]
      cases hq : !(gt ps p.1 == gt ps p.2) with
      | true => rfl
      | false => simpa using ih
  have e3 : evE K (.cmp .ne (.lc false (.con (.int 1)) [4, 5] (.cons (.name 4) (.cons (.name 5) .nil)) (.ex (.loc 2)) (.some (.cmp .ne (.idx (.loc 1) (.loc 4)) (.idx (.loc 1) (.loc 5))))) (.lst false .nil)) [some (.d (encS s)), some (.d (encP ps)), some (.d (.tuple (s.ties.map pr))), some (.d (hd s.head)), none, none] [] = .ok (.d (.bool (s.ties.any fun p => !(gt ps p.1 == gt ps p.2)))) [] := by
    show R.bind (evE K _ _ _) _ = _
    rw [e2]
    show R.ofO ((cmpV .ne (.d (.list ((s.ties.filter fun p => !(gt ps p.1 == gt ps p.2)).map fun _ => PyData.int 1))) (.d (.list [])) []).map fun k => Val.d (.bool k)) [] = _
    rw [cmp_ne_nil (n := 0) (b := 0) (fun x hx => ?_) (by omega), e5, Bool.not_not]
    · rfl
    · obtain ⟨_, _, rfl⟩ := List.mem_map.mp hx
      exact Pl.int (by decide)
  have e4 := keeps_end (K := K) (st := []) (ps := ps) (s := s) hs
  rw [ss_nx e1]
  cases hb : s.ties.any fun p => !(gt ps p.1 == gt ps p.2) with
  | true =>
    rw [hb] at e3
    rw [ss_rt (v := .d (.bool true)) (st1 := [])]
    · unfold keepsM
      rw [hb]
      rfl
    · show R.bind (evE K _ _ _) _ = _
      rw [e3]
      rfl
  | false =>
    rw [hb] at e3
    rw [ss_nx (en1 := [some (.d (encS s)), some (.d (encP ps)), some (.d (.tuple (s.ties.map pr))), some (.d (hd s.head)), none, none]) (st1 := []), ss_rt (v := .d (.bool (keepsM s ps))) (st1 := [])]
    · rfl
    · show R.bind (evE K _ _ _) _ = _
      rw [e4]
      unfold keepsM
      rw [hb]
      rfl
    · show R.bind (evE K _ _ _) _ = _
      rw [e3]
      rfl
end
end Ev
set_option Elab.async false
set_option linter.all false
set_option maxRecDepth 100000
/-! EvO: orders of placings. -/
namespace Ev
open PySem PySem.Spec PyProof.Rows L2

def ix (x : Int) : List Int → Nat
  | [] => 0
  | y :: ys => if y = x then 0 else ix x ys + 1
def ordM (ps : List Int) : List Int := ps.map fun x => ((ix x (ssetI ps) : Nat) : Int)
theorem ix_lt {x : Int} : ∀ {L : List Int}, x ∈ L → ix x L < L.length
  | [], h => by cases h
  | y :: L, h => by
    unfold ix
    split
    · exact Nat.succ_pos _
    · rcases List.mem_cons.mp h with e | e
      · rename_i ne; exact absurd e.symm ne
      · exact Nat.succ_lt_succ (ix_lt e)
theorem eqv_int {x y : Int} : PyData.eqv (.int x) (.int y) = (x == y) := rfl
theorem find_ix {x : Int} : ∀ {L : List Int} (k : Nat), x ∈ L → findD (.int x) (L.map PyData.int) k = some (k + ix x L)
  | [], _, h => by cases h
  | y :: L, k, h => by
    show (if PyData.eqv (.int y) (.int x) = true then some k else findD (.int x) (L.map PyData.int) (k + 1)) = _
    unfold ix
    by_cases e : y = x
    · subst e
      rw [if_pos (by rw [eqv_int]; simp), if_pos rfl]
      rfl
    · rw [if_neg (by rw [eqv_int]; simpa using e), if_neg e]
      rcases List.mem_cons.mp h with e' | e'
      · exact absurd e'.symm e
      · rw [find_ix (k + 1) e']
        congr 1
        omega
theorem insU_len {x : Int} : ∀ l : List Int, (insU x l).length ≤ l.length + 1
  | [] => Nat.le_refl _
  | y :: l => by
    unfold insU
    split
    · exact Nat.le_refl _
    · split
      · exact Nat.le_succ _
      · exact Nat.succ_le_succ (insU_len l)
theorem ssetI_len : ∀ l : List Int, (ssetI l).length ≤ l.length
  | [] => Nat.le_refl _
  | x :: l => by
    unfold ssetI
    have := insU_len (x := x) (ssetI l)
    have := ssetI_len l
    simp only [List.length_cons]
    omega
theorem ints_map : ∀ ns : List Int, allInts ((ns.map PyData.int).map Val.d) = some ns
  | [] => rfl
  | n :: ns => by
    show (allInts ((ns.map PyData.int).map Val.d)).map (n :: ·) = _
    rw [ints_map ns]
    rfl
theorem ssetI_ok {ps : List Int} (h : ps.length < 64) : (ssetI ps).length < 64 ∧ ps.length ≤ 4000 := by
  have := ssetI_len ps
  omega
theorem sset_run {ps : List Int} {st : Sto} (h : ps.length < 64) : ssetV false (.d (encP ps)) st = .ok (.d (.list ((ssetI ps).map PyData.int))) st := by
  show (match allInts ((ps.map PyData.int).map .d) with
    | some ns => if (ssetI ns).length < 64 ∧ ns.length ≤ 4000 then mkL false ((ssetI ns).map fun i => .d (.int i)) st else .no
    | none => .no) = _
  rw [ints_map]
  show (if (ssetI ps).length < 64 ∧ ps.length ≤ 4000 then mkL false ((ssetI ps).map fun i => .d (.int i)) st else .no) = _
  rw [if_pos (ssetI_ok h)]
  have := mkL_d (ds := (ssetI ps).map PyData.int) (st := st) (by rw [List.length_map]; have := ssetI_len ps; omega)
  rw [List.map_map] at this
  exact this
theorem sset_lst {ps : List Int} {st : Sto} (h : (ssetI ps).length < 64) (h2 : ps.length ≤ 4000) : ssetV false (.d (.list (ps.map PyData.int))) st = .ok (.d (.list ((ssetI ps).map PyData.int))) st := by
  show (match allInts ((ps.map PyData.int).map .d) with
    | some ns => if (ssetI ns).length < 64 ∧ ns.length ≤ 4000 then mkL false ((ssetI ns).map fun i => .d (.int i)) st else .no
    | none => .no) = _
  rw [ints_map]
  show (if (ssetI ps).length < 64 ∧ ps.length ≤ 4000 then mkL false ((ssetI ps).map fun i => .d (.int i)) st else .no) = _
  rw [if_pos ⟨h, h2⟩]
  have := mkL_d (ds := (ssetI ps).map PyData.int) (st := st) (by rw [List.length_map]; omega)
  rw [List.map_map] at this
  exact this
section
variable {K : Ck} {k : Nat} {st : Sto} {ps : List Int}
theorem lorder_run (hl : ps.length < 64) (hp : ∀ x ∈ ps, Pl 0 0 (.int x)) : calls gdefs gglo (k + 1) 9 [.d (encP ps)] st = .ok (.d (encP (ordM ps))) st := by
  rw [calls_run gd9]
  refine run_pure (ds := [encP ps]) (st0 := []) rfl rfl ?_
  generalize (⟨calls gdefs gglo k, gglo⟩ : Ck) = K
  show finish (evSs K b9 [some (.d (encP ps)), none, none] []) = _
  unfold b9
  have e1 : evS K (.set 1 (.sset false (.loc 0))) [some (.d (encP ps)), none, none] [] = .ok (.nx [some (.d (encP ps)), some (.d (.list ((ssetI ps).map PyData.int))), none]) [] := by
    have e : evE K (.sset false (.loc 0)) [some (.d (encP ps)), none, none] [] = ssetV false (.d (encP ps)) [] := rfl
    show R.bind (evE K _ _ _) _ = _
    rw [e, sset_run hl]
    rfl
  have hsh : shapedB (.list ((ssetI ps).map PyData.int)) = true := (Pl.list (n := 0) (b := 0) fun x hx => by
    obtain ⟨y, hy, rfl⟩ := List.mem_map.mp hx
    exact hp y (ssetI_mem.mp hy)).shaped (by omega)
  have e2 : evE K (.lc false (.mt false .index (.loc 1) (.cons (.loc 2) .nil)) [2] (.name 2) (.ex (.loc 0)) .none) [some (.d (encP ps)), some (.d (.list ((ssetI ps).map PyData.int))), none] [] = .ok (.d (.list ((ordM ps).map PyData.int))) [] := by
    refine ev_lc (zs := ps.map PyData.int) rfl (mapS_map (g := fun x => PyData.int (ix x (ssetI ps) : Nat)) fun x hx => ?_) ?_
    · have hm : mtV .index (.d (.list ((ssetI ps).map PyData.int))) [.d (.int x)] [] = .ok (.d (.int (ix x (ssetI ps) : Nat))) [] := by
        show (if (shapedB (.int x) && shapedB (.list ((ssetI ps).map PyData.int))) = true then R.ofO ((findD (.int x) ((ssetI ps).map PyData.int) 0).map fun (j : Nat) => Val.d (.int (j : Int))) [] else .no) = _
        rw [(hp x hx).shaped (by omega), hsh, find_ix 0 (ssetI_mem.mpr hx), Nat.zero_add]
        rfl
      have hk : kindOk .index (.d (.list ((ssetI ps).map PyData.int))) [] = true := rfl
      simp [lcF, asg, wipeE, evC, evE, evEs, hk, hm]
    · rw [mkL_d (by rw [List.length_map]; omega)]
      unfold ordM
      rw [List.map_map]
      rfl
  rw [ss_nx e1, ss_rt (v := .d (encP (ordM ps))) (st1 := [])]
  · rfl
  · have e3 : evE K (.bi false .tuple (.cons (.lc false (.mt false .index (.loc 1) (.cons (.loc 2) .nil)) [2] (.name 2) (.ex (.loc 0)) .none) .nil)) [some (.d (encP ps)), some (.d (.list ((ssetI ps).map PyData.int))), none] [] = .ok (.d (encP (ordM ps))) [] := by
      show R.bind (R.bind (evE K _ _ _) _) _ = _
      rw [e2]
      show mkT (((ordM ps).map PyData.int).map Val.d) [] = _
      rw [mkT_d (by unfold ordM; rw [List.length_map, List.length_map]; omega)]
      rfl
    show R.bind (evE K _ _ _) _ = _
    rw [e3]
    rfl
theorem ev_dc {x y : E} {own : List Nat} {g : Tg} {it : I} {c : Eo} {en : Slots} {st st1 st2 : Sto} {zs : List D} {ys : List (Key × Val)} (hi : evI K it en st = .ok (.stat zs) st1) (hm : mapS (dcF K x y own g c en) zs st1 = .ok ys st2) (hl : ys.length ≤ 100000) :
    evE K (.dc x y own g it c) en st = .ok (.ref st2.length) (st2 ++ [.dK (mergeD ys)]) := by
  have e : evE K (.dc x y own g it c) en st = ((evI K it en st).bind fun s st1 => ((mapSrc (dcF K x y own g c en) s st1).bind mkD).calm) := by
    simp only [evE] <;> rfl
  rw [e, hi, bind_ok]
  show ((mapS _ _ _).bind _).calm = _
  rw [hm, bind_ok]
  unfold mkD
  rw [if_pos hl]
  rfl
/-- each number beside its place -/
def prs (k : Nat) : List Int → List (Key × Val)
  | [] => []
  | x :: l => (.inl x, iv k) :: prs (k + 1) l
theorem prs_len : ∀ (k : Nat) (l : List Int), (prs k l).length = l.length
  | _, [] => rfl
  | k, _ :: l => congrArg (· + 1) (prs_len (k + 1) l)
theorem prs_keys {x : Int} : ∀ (k : Nat) (l : List Int), (∃ v, ((.inl x : Key), v) ∈ prs k l) → x ∈ l
  | _, [], ⟨_, h⟩ => by cases h
  | k, y :: l, ⟨v, h⟩ => by
    rcases List.mem_cons.mp h with e | e
    · injection e with e1 _
      injection e1 with e1
      rw [e1]
      exact List.mem_cons_self
    · exact List.mem_cons_of_mem _ (prs_keys (k + 1) l ⟨v, e⟩)
theorem putK_fresh {q : Key} {v : Val} {kvs : List (Key × Val)} (h : ∀ p ∈ kvs, p.1 ≠ q) : putK q v kvs = kvs ++ [(q, v)] := by
  unfold putK
  rw [if_neg]
  intro z
  obtain ⟨p, hp, e⟩ := List.any_eq_true.mp z
  exact h p hp (of_decide_eq_true e)
theorem merge_prs : ∀ (k : Nat) (l : List Int) (acc : List (Key × Val)), l.Nodup → (∀ p ∈ acc, ∀ x ∈ l, p.1 ≠ .inl x) → (prs k l).foldl (fun acc p => putK p.1 p.2 acc) acc = acc ++ prs k l
  | _, [], acc, _, _ => (List.append_nil acc).symm
  | k, x :: l, acc, hn, ha => by
    obtain ⟨h1, h2⟩ := List.nodup_cons.mp hn
    show (prs (k + 1) l).foldl _ (putK (.inl x) (iv k) acc) = _
    rw [putK_fresh fun p hp => ha p hp x List.mem_cons_self, merge_prs (k + 1) l _ h2 fun p hp y hy => ?_]
    · rw [List.append_assoc]
      rfl
    · rcases List.mem_append.mp hp with e | e
      · exact ha p e y (List.mem_cons_of_mem _ hy)
      · rw [List.mem_singleton] at e
        subst e
        intro z
        injection z with z
        subst z
        exact h1 hy
theorem valK_prs {x : Int} : ∀ (k : Nat) (l : List Int), x ∈ l → valK (.inl x) (prs k l) = some (iv ((k + ix x l : Nat) : Int))
  | _, [], h => by cases h
  | k, y :: l, h => by
    show (if (.inl y : Key) = .inl x then some (iv k) else valK (.inl x) (prs (k + 1) l)) = _
    unfold ix
    by_cases e : y = x
    · subst e
      rw [if_pos rfl, if_pos rfl]
      rfl
    · rw [if_neg (fun z => e (by injection z)), if_neg e]
      rcases List.mem_cons.mp h with e' | e'
      · exact absurd e'.symm e
      · rw [valK_prs (k + 1) l e']
        congr 2
        omega
theorem pw_nodup : ∀ {l : List Int}, l.Pairwise (· < ·) → l.Nodup
  | [], _ => List.nodup_nil
  | x :: l, h => by
    obtain ⟨h1, h2⟩ := List.pairwise_cons.mp h
    refine List.nodup_cons.mpr ⟨fun z => ?_, pw_nodup h2⟩
    have := h1 x z
    omega
theorem enum_prs {f : Val → Sto → R (List (Key × Val))} {st : Sto} (hf : ∀ (k : Nat) (x : Int), f (.d (.tuple [.int k, .int x])) st = .ok [(.inl x, iv k)] st) : ∀ (k : Nat) (l : List Int), mapS f (enumD k (l.map PyData.int)) st = .ok (prs k l) st
  | _, [] => rfl
  | k, x :: l => by
    show (f (.d (.tuple [.int k, .int x])) st).bind _ = _
    rw [hf k x, bind_ok, enum_prs hf (k + 1) l]
    rfl
theorem order_run (hl : ps.length < 64) : calls gdefs gglo (k + 1) 4 [.d (encP ps)] st = .ok (.d (encP (ordM ps))) st := by
  rw [calls_run gd4]
  refine run_pure (ds := [encP ps]) (st0 := [.dK (prs 0 (ssetI ps))]) rfl rfl ?_
  generalize (⟨calls gdefs gglo k, gglo⟩ : Ck) = K
  show finish (evSs K b4 [some (.d (encP ps)), none, none, none] []) = _
  unfold b4
  have e1 : evS K (.set 1 (.dc (.loc 3) (.loc 2) [2, 3] (.cons (.name 2) (.cons (.name 3) .nil)) (.enm (.sset false (.loc 0))) .none)) [some (.d (encP ps)), none, none, none] [] = .ok (.nx [some (.d (encP ps)), some (.ref 0), none, none]) [.dK (prs 0 (ssetI ps))] := by
    have e : evE K (.sset false (.loc 0)) [some (.d (encP ps)), none, none, none] [] = ssetV false (.d (encP ps)) [] := rfl
    have e2 : evI K (.enm (.sset false (.loc 0))) [some (.d (encP ps)), none, none, none] [] = .ok (.stat (enumD 0 ((ssetI ps).map PyData.int))) [] := by
      show R.bind (evE K _ _ _) _ = _
      rw [e, sset_run hl]
      rfl
    have e3 := ev_dc (K := K) (x := .loc 3) (y := .loc 2) (own := [2, 3]) (g := .cons (.name 2) (.cons (.name 3) .nil)) (c := .none) e2 (enum_prs (fun k x => by simp [dcF, asg, wipeE, evC, evE, keyV, keyOf]) 0 (ssetI ps)) (by rw [prs_len]; have := ssetI_len ps; omega)
    have e4 : mergeD (prs 0 (ssetI ps)) = prs 0 (ssetI ps) := merge_prs 0 (ssetI ps) [] (pw_nodup (ssetI_pw ps)) (fun p hp => by cases hp)
    rw [e4] at e3
    show R.bind (evE K _ _ _) _ = _
    rw [e3]
    rfl
  have e2 : evE K (.lc false (.idx (.loc 1) (.loc 3)) [3] (.name 3) (.ex (.loc 0)) .none) [some (.d (encP ps)), some (.ref 0), none, none] [.dK (prs 0 (ssetI ps))] = .ok (.d (.list ((ordM ps).map PyData.int))) [.dK (prs 0 (ssetI ps))] := by
    refine ev_lc (zs := ps.map PyData.int) rfl (mapS_map (g := fun x => PyData.int (ix x (ssetI ps) : Nat)) fun x hx => ?_) ?_
    · have hm : idxV (.ref 0) (.d (.int x)) [.dK (prs 0 (ssetI ps))] = some (iv (ix x (ssetI ps) : Nat)) := by
        show valK (.inl x) (prs 0 (ssetI ps)) = _
        rw [valK_prs 0 _ (ssetI_mem.mpr hx), Nat.zero_add]
      simp [lcF, asg, wipeE, evC, evE, hm]
    · rw [mkL_d (by rw [List.length_map]; omega)]
      unfold ordM
      rw [List.map_map]
      rfl
  rw [ss_nx e1, ss_rt (v := .d (encP (ordM ps))) (st1 := [.dK (prs 0 (ssetI ps))])]
  · rfl
  · have e3 : evE K (.bi false .tuple (.cons (.lc false (.idx (.loc 1) (.loc 3)) [3] (.name 3) (.ex (.loc 0)) .none) .nil)) [some (.d (encP ps)), some (.ref 0), none, none] [.dK (prs 0 (ssetI ps))] = .ok (.d (encP (ordM ps))) [.dK (prs 0 (ssetI ps))] := by
      show R.bind (R.bind (evE K _ _ _) _) _ = _
      rw [e2]
      show mkT (((ordM ps).map PyData.int).map Val.d) _ = _
      rw [mkT_d (by unfold ordM; rw [List.length_map, List.length_map]; omega)]
      rfl
    show R.bind (evE K _ _ _) _ = _
    rw [e3]
    rfl
end
end Ev
set_option Elab.async false
set_option linter.all false
set_option maxRecDepth 100000
/-! EvB: books: broken, first_broken, keeps_book. -/
namespace Ev
open PySem PySem.Spec PyProof.Rows L2

def brk (ps : List Int) : Nat → List Say → List Int
  | _, [] => []
  | k, s :: ss => if keepsM s ps = true then brk ps (k + 1) ss else (k : Int) :: brk ps (k + 1) ss
theorem brk_cons {ps : List Int} {k : Nat} {s : Say} {ss : List Say} : brk ps k (s :: ss) = if keepsM s ps = true then brk ps (k + 1) ss else (k : Int) :: brk ps (k + 1) ss := rfl
def firstD : List Int → D
  | [] => .none
  | j :: _ => .int j
theorem brk_len {ps : List Int} : ∀ (k : Nat) (ss : List Say), (brk ps k ss).length ≤ ss.length
  | _, [] => Nat.le_refl _
  | k, s :: ss => by
    unfold brk
    have := brk_len (ps := ps) (k + 1) ss
    split
    · exact Nat.le_succ_of_le this
    · exact Nat.succ_le_succ this
def Book (n : Nat) (ss : List Say) : Prop := (∀ s ∈ ss, s.Ok n) ∧ ss.length ≤ 10000
section
variable {k : Nat} {st : Sto} {ps : List Int} {ss : List Say} {n : Int}
theorem ix_book : idxV (.d (encB n ss)) (.d (.int 1)) st = some (.d (.tuple (ss.map encS))) := rfl
theorem enum_brk {f : Val → Sto → R (List Val)} {st : Sto} (hf : ∀ (k : Nat) (s : Say), s.Ok ps.length → f (.d (.tuple [.int k, encS s])) st = .ok (if keepsM s ps = true then [] else [iv k]) st) : ∀ (k : Nat) (ss : List Say), (∀ s ∈ ss, s.Ok ps.length) → mapS f (enumD k (ss.map encS)) st = .ok ((brk ps k ss).map iv) st
  | _, [], _ => rfl
  | k, s :: ss, h => by
    show (f (.d (.tuple [.int k, encS s])) st).bind _ = _
    rw [hf k s (h s List.mem_cons_self), bind_ok, enum_brk hf (k + 1) ss fun y hy => h y (List.mem_cons_of_mem _ hy)]
    rw [brk_cons]
    cases keepsM s ps <;> rfl
theorem broken_run (hb : Book ps.length ss) : calls gdefs gglo (k + 2) 1 [.d (encB n ss), .d (encP ps)] st = .ok (.ref st.length) (st ++ [.lst ((brk ps 0 ss).map iv)]) := by
  rw [calls_run gd1, run_imp rfl rfl]
  show finish (evSs _ b1 [some (.d (encB n ss)), some (.d (encP ps)), none, none] st) = _
  unfold b1
  have e1 : evE (⟨calls gdefs gglo (k + 1), gglo⟩ : Ck) (.lc true (.loc 2) [2, 3] (.cons (.name 2) (.cons (.name 3) .nil)) (.enm (.idx (.loc 0) (.con (.int 1)))) (.some (.not (.call 0 (.cons (.loc 3) (.cons (.loc 1) .nil)))))) [some (.d (encB n ss)), some (.d (encP ps)), none, none] st = .ok (.ref st.length) (st ++ [.lst ((brk ps 0 ss).map iv)]) := by
    refine ev_lc (zs := enumD 0 (ss.map encS)) rfl (enum_brk (fun j s hs => ?_) 0 ss hb.1) (mkL_new (by rw [List.length_map]; have := brk_len (ps := ps) 0 ss; have := hb.2; omega))
    have hk := keeps_run (k := k) (st := st) hs
    cases hq : keepsM s ps <;> simp [lcF, asg, wipeE, evC, evE, evEs, hk, hq]
  rw [ss_rt (v := .ref st.length) (st1 := st ++ [.lst ((brk ps 0 ss).map iv)])]
  · rfl
  · show R.bind (evE _ _ _ _) _ = _
    rw [e1]
    rfl
theorem first_loop {f : Val → Slots → Sto → R Fl} (hf : ∀ (k : Nat) (s : Say) (x y : Option Val), s.Ok ps.length → f (.d (.tuple [.int k, encS s])) [some (.d (encB n ss)), some (.d (encP ps)), x, y] [] = .ok (if keepsM s ps = true then .nx [some (.d (encB n ss)), some (.d (encP ps)), some (iv k), some (.d (encS s))] else .rt (iv k)) []) :
    ∀ (k : Nat) (ls : List Say) (x y : Option Val), (∀ s ∈ ls, s.Ok ps.length) → ∃ fl, forS f (enumD k (ls.map encS)) [some (.d (encB n ss)), some (.d (encP ps)), x, y] [] = .ok fl [] ∧ ((brk ps k ls = [] ∧ ∃ x y, fl = .nx [some (.d (encB n ss)), some (.d (encP ps)), x, y]) ∨ ∃ j r, brk ps k ls = j :: r ∧ fl = .rt (iv j))
  | _, [], x, y, _ => ⟨_, rfl, .inl ⟨rfl, x, y, rfl⟩⟩
  | k, s :: ls, x, y, h => by
    have e := hf k s x y (h s List.mem_cons_self)
    rw [brk_cons]
    cases hq : keepsM s ps with
    | true =>
      rw [hq] at e
      obtain ⟨fl, e2, h2⟩ := first_loop hf (k + 1) ls (some (iv k)) (some (.d (encS s))) fun y hy => h y (List.mem_cons_of_mem _ hy)
      refine ⟨fl, ?_, h2⟩
      show (f (.d (.tuple [.int k, encS s])) _ []).bind _ = _
      rw [e]
      exact e2
    | false =>
      rw [hq] at e
      refine ⟨.rt (iv k), ?_, .inr ⟨_, _, rfl, rfl⟩⟩
      show (f (.d (.tuple [.int k, encS s])) _ []).bind _ = _
      rw [e]
      rfl
theorem first_run (hb : Book ps.length ss) : calls gdefs gglo (k + 2) 2 [.d (encB n ss), .d (encP ps)] st = .ok (.d (firstD (brk ps 0 ss))) st := by
  rw [calls_run gd2]
  refine run_pure (ds := [encB n ss, encP ps]) (st0 := []) rfl rfl ?_
  show finish (evSs _ b2 [some (.d (encB n ss)), some (.d (encP ps)), none, none] []) = _
  unfold b2
  obtain ⟨fl, e, h⟩ := first_loop (ps := ps) (ss := ss) (n := n) (f := fun v en1 st2 => match asg (.cons (.name 2) (.cons (.name 3) .nil)) v en1 with
    | some en2 => evSs (⟨calls gdefs gglo (k + 1), gglo⟩ : Ck) (.cons (.ite (.not (.call 0 (.cons (.loc 3) (.cons (.loc 1) .nil)))) (.cons (.ret (.loc 2)) .nil) .nil) .nil) en2 st2
    | none => .no) (fun j s x y hs => by
      have hk := keeps_run (k := k) (st := ([] : Sto)) hs
      cases hq : keepsM s ps <;> simp [asg, evSs, evS, evE, evEs, hk, hq]) 0 ss none none hb.1
  have e1 : evS (⟨calls gdefs gglo (k + 1), gglo⟩ : Ck) (.loop (.cons (.name 2) (.cons (.name 3) .nil)) (.enm (.idx (.loc 0) (.con (.int 1)))) (.cons (.ite (.not (.call 0 (.cons (.loc 3) (.cons (.loc 1) .nil)))) (.cons (.ret (.loc 2)) .nil) .nil) .nil)) [some (.d (encB n ss)), some (.d (encP ps)), none, none] [] = .ok fl [] := e
  rcases h with ⟨h1, x, y, rfl⟩ | ⟨j, r, h1, rfl⟩
  · rw [ss_nx e1, h1]
    rfl
  · rw [ss_rt e1, h1]
    rfl
theorem kbook_run (hb : Book ps.length ss) : calls gdefs gglo (k + 3) 3 [.d (encB n ss), .d (encP ps)] st = .ok (.d (.bool (brk ps 0 ss).isEmpty)) st := by
  rw [calls_run gd3]
  refine run_pure (ds := [encB n ss, encP ps]) (st0 := []) rfl rfl ?_
  show finish (evSs _ b3 [some (.d (encB n ss)), some (.d (encP ps))] []) = _
  unfold b3
  have hf := first_run (k := k) (st := ([] : Sto)) (n := n) hb
  rw [ss_rt (v := .d (.bool (brk ps 0 ss).isEmpty)) (st1 := [])]
  · rfl
  · cases hq : brk ps 0 ss <;> rw [hq] at hf <;> simp [evS, evE, evEs, hf, firstD]
end
end Ev
set_option Elab.async false
set_option linter.all false
set_option maxRecDepth 100000
/-! EvD: drawn sayings, placings, books: they are what they should be. -/
namespace Ev
open PySem PySem.Spec PyProof.Rows L2

/-- the source at its place; behind the rest, what is no longer looked at -/
def Gr (st rest : Sto) : Prop := ∃ more, HasS st (rest ++ more)
theorem Gr.of {st rest : Sto} (h : HasS st rest) : Gr st rest := ⟨[], by rw [List.append_nil]; exact h⟩
theorem Gr.at_ {st rest : Sto} (h : Gr st rest) {i : Nat} {c : Cell} (hi : rest[i]? = some c) : st[3 + i]? = some c := by
  obtain ⟨more, h⟩ := h
  rw [h.at_, List.getElem?_append_left (List.getElem?_eq_some_iff.mp hi).1, hi]
theorem Gr.cut {st rest more : Sto} (h : Gr st (rest ++ more)) : Gr st rest := by
  obtain ⟨m, h⟩ := h
  exact ⟨more ++ m, by rw [← List.append_assoc]; exact h⟩
theorem pick_gr {k : Nat} {many : Int} {st rest : Sto} (hm : many < 1073741824) (h : Gr st rest) : Ok (calls gdefs gglo (k + 1) 6 [.ref 2, .d (.int many)] st) fun v st' => Gr st' rest ∧ ∃ w : Int, v = .d (.int w) ∧ 0 ≤ w ∧ (w < many ∨ (w = 0 ∧ many < 2)) := by
  obtain ⟨more, h⟩ := h
  exact (pick_any hm h).mono fun v st' ⟨h1, h2⟩ => ⟨⟨more, h1⟩, h2⟩
theorem of_gr {k : Nat} {d : D} {xs : List D} {st rest : Sto} (hd : SeqD d xs) (hn : xs ≠ []) (hl : xs.length < 1073741824) (h : Gr st rest) : Ok (calls gdefs gglo (k + 2) 7 [.ref 2, .d d] st) fun v st' => Gr st' rest ∧ ∃ x ∈ xs, v = .d x := by
  obtain ⟨more, h⟩ := h
  exact (of_ok hd hn hl h).mono fun v st' ⟨h1, h2⟩ => ⟨⟨more, h1⟩, h2⟩
theorem mixed_gr {k : Nat} {d : D} {xs : List D} {st rest : Sto} (hd : SeqD d xs) (hl : xs.length < 1000) (h : Gr st rest) : Ok (calls gdefs gglo (k + 2) 8 [.ref 2, .d d] st) fun v st' => Gr st' rest ∧ ∃ ys, ys.Perm xs ∧ v = .d (.list ys) := by
  obtain ⟨more, h⟩ := h
  exact (mixed_ok hd hl h).mono fun v st' ⟨h1, h2⟩ => ⟨⟨more ++ [.lst []], by rw [← List.append_assoc]; exact h1⟩, h2⟩
theorem range_mem {x : D} : ∀ {n : Nat} {lo : Int}, x ∈ rangeI lo n → ∃ i, x = .int i ∧ lo ≤ i ∧ i < lo + n
  | 0, _, h => by cases h
  | n + 1, lo, h => by
    rcases List.mem_cons.mp h with e | e
    · exact ⟨lo, e, Int.le_refl _, by omega⟩
    · obtain ⟨i, e1, h1, h2⟩ := range_mem e
      exact ⟨i, e1, by omega, by omega⟩
theorem range_nodup : ∀ {n : Nat} {lo : Int}, (rangeI lo n).Nodup
  | 0, _ => List.nodup_nil
  | n + 1, lo => List.nodup_cons.mpr ⟨fun h => by
      obtain ⟨i, e, h1, _⟩ := range_mem h
      cases e
      omega, range_nodup⟩
theorem lift_list {β : Type} {enc : β → D} {P : β → Prop} : ∀ {ys : List D}, (∀ y ∈ ys, ∃ b, y = enc b ∧ P b) → ∃ bs : List β, ys = bs.map enc ∧ ∀ b ∈ bs, P b
  | [], _ => ⟨[], rfl, fun _ h => by cases h⟩
  | y :: ys, h => by
    obtain ⟨b, rfl, hb⟩ := h y List.mem_cons_self
    obtain ⟨bs, rfl, hs⟩ := lift_list fun z hz => h z (List.mem_cons_of_mem _ hz)
    exact ⟨b :: bs, rfl, fun c hc => by
      rcases List.mem_cons.mp hc with e | e
      · rw [e]; exact hb
      · exact hs c e⟩
theorem ev_lrng {K : Ck} {r : Bool} {it : I} {en : Slots} {st st1 : Sto} {xs : List D} (h : evI K it en st = .ok (.stat xs) st1) (hl : xs.length ≤ 16777216) : evE K (.lrng false it) en st = .ok (.d (.list xs)) st1 := by
  have e : evE K (.lrng false it) en st = (evI K it en st).bind fun s st1 => match s with
    | .stat xs => mkL false (xs.map .d) st1
    | .live _ => .no := by simp only [evE] <;> rfl
  rw [e, h, bind_ok]
  exact mkL_d hl
theorem cut_take {xs : List Val} {i : Int} (h : 0 ≤ i) : cutE xs none (some i) = xs.take i.toNat := by
  unfold cutE
  obtain ⟨k, rfl⟩ := Int.eq_ofNat_of_zero_le h
  show (xs.drop (HT.sIx xs.length 0 none)).take (HT.sIx xs.length xs.length (some (k : Int)) - HT.sIx xs.length 0 none) = _
  rw [HT.sIx_none, HT.sIx_nat, List.drop_zero, Int.toNat_natCast]
  exact (List.take_eq_take_iff.mpr (by omega))
theorem cut_drop {xs : List Val} {i : Int} (h : 0 ≤ i) : cutE xs (some i) none = xs.drop i.toNat := by
  unfold cutE
  obtain ⟨k, rfl⟩ := Int.eq_ofNat_of_zero_le h
  show (xs.drop (HT.sIx xs.length 0 (some (k : Int)))).take (HT.sIx xs.length xs.length none - HT.sIx xs.length 0 (some (k : Int))) = _
  rw [HT.sIx_none, HT.sIx_nat, Int.toNat_natCast, List.take_of_length_le (by rw [List.length_drop]; exact Nat.le_refl _)]
  by_cases hk : k ≤ xs.length
  · rw [Nat.min_eq_left hk]
  · rw [Nat.min_eq_right (by omega), List.drop_length, List.drop_eq_nil_of_le (by omega)]
theorem sl_take {xs : List D} {i : Int} {st : Sto} (h : 0 ≤ i) (hl : xs.length ≤ 16777216) : slV false none (some i) (.d (.list xs)) st = .ok (.d (.list (xs.take i.toNat))) st := by
  show mkL false (cutE (xs.map .d) none (some i)) st = _
  rw [cut_take h, ← List.map_take, mkL_d (by rw [List.length_take]; omega)]
theorem sl_drop {xs : List D} {i : Int} {st : Sto} (h : 0 ≤ i) (hl : xs.length ≤ 16777216) : slV false (some i) none (.d (.list xs)) st = .ok (.d (.list (xs.drop i.toNat))) st := by
  show mkL false (cutE (xs.map .d) (some i) none) st = _
  rw [cut_drop h, ← List.map_drop, mkL_d (by rw [List.length_drop]; omega)]
def eMix2 : E := .slc false (.call 8 (.cons (.loc 0) (.cons (.lrng false (.rng1 (.loc 1))) .nil))) .none (.some (.con (.int 2)))
theorem mix2 {k : Nat} {n : Int} {en : Slots} {st rest : Sto} (h0 : en[0]? = some (some (.ref 2))) (h1 : en[1]? = some (some (.d (.int n)))) (hn : 2 ≤ n) (hn2 : n < 1000) (h : Gr st rest) :
    Ok (evE ⟨calls gdefs gglo (k + 2), gglo⟩ eMix2 en st) fun v st' => Gr st' rest ∧ ∃ a b : Int, v = .d (.list [.int a, .int b]) ∧ (0 ≤ a ∧ a < n) ∧ 0 ≤ b ∧ b < n ∧ a ≠ b := by
  have hl : (rangeI 0 n.toNat).length = n.toNat := rangeI_len _ _
  have e1 : evE ⟨calls gdefs gglo (k + 2), gglo⟩ (.lrng false (.rng1 (.loc 1))) en st = .ok (.d (.list (rangeI 0 n.toNat))) st := ev_lrng (r := false) (ev_rng1 (i := n) (by simp only [evE, h1]) (by omega) (by omega)) (by omega)
  obtain ⟨v, st1, e2, g1, ys, hp, rfl⟩ := mixed_gr (k := k) (d := .list (rangeI 0 n.toNat)) (.inl rfl) (by omega) h
  have hy : ∀ y ∈ ys, ∃ i, y = PyData.int i ∧ 0 ≤ i ∧ i < n := fun y hy => by
    obtain ⟨i, e, h1, h2⟩ := range_mem (hp.mem_iff.mp hy)
    exact ⟨i, e, h1, by omega⟩
  have hyl : ys.length = n.toNat := by rw [hp.length_eq, hl]
  have hnd : ys.Nodup := hp.nodup_iff.mpr range_nodup
  match ys, hy, hyl, hnd with
  | [], _, hyl, _ => simp at hyl; omega
  | [_], _, hyl, _ => simp at hyl; omega
  | y0 :: y1 :: ys, hy, hyl, hnd =>
    obtain ⟨a, rfl, ha⟩ := hy y0 List.mem_cons_self
    obtain ⟨b, rfl, hb⟩ := hy y1 (List.mem_cons_of_mem _ List.mem_cons_self)
    have hab : a ≠ b := fun e => (List.nodup_cons.mp hnd).1 (by rw [e]; exact List.mem_cons_self)
    refine Ok.eq (a := .d (.list [.int a, .int b])) (st := st1) ?_ ⟨g1, a, b, rfl, ha, hb.1, hb.2, hab⟩
    have e3 : evE ⟨calls gdefs gglo (k + 2), gglo⟩ (.call 8 (.cons (.loc 0) (.cons (.lrng false (.rng1 (.loc 1))) .nil))) en st = .ok (.d (.list (.int a :: .int b :: ys))) st1 := by
      have : evEs ⟨calls gdefs gglo (k + 2), gglo⟩ (.cons (.loc 0) (.cons (.lrng false (.rng1 (.loc 1))) .nil)) en st = .ok [.ref 2, .d (.list (rangeI 0 n.toNat))] st := by
        simp only [evEs, evE, h0, bind_ok]
        show R.bind (R.bind (evE _ (.lrng false (.rng1 (.loc 1))) en st) _) _ = _
        rw [e1]
        rfl
      show R.bind (evEs _ _ _ _) _ = _
      rw [this]
      exact e2
    show R.bind (evE _ _ _ _) _ = _
    rw [e3]
    exact sl_take (xs := .int a :: .int b :: ys) (i := 2) (by omega) (by omega)
end Ev
set_option Elab.async false
set_option linter.all false
set_option maxRecDepth 100000
/-! EvS: pairs of ints in order. -/
namespace Ev
open PySem PySem.Spec PyProof.Rows L2

def tlt (p q : Two) : Bool := decide (p.1 < q.1) || (decide (p.1 = q.1) && decide (p.2 < q.2))
theorem tlt_iff {p q : Two} : tlt p q = true ↔ p.1 < q.1 ∨ (p.1 = q.1 ∧ p.2 < q.2) := by
  unfold tlt
  rw [Bool.or_eq_true, Bool.and_eq_true, decide_eq_true_iff, decide_eq_true_iff, decide_eq_true_iff]
theorem lt_pr (p q : Two) : PySem.W.dataLt (pr p) (pr q) = tlt p q := by
  have e1 : ∀ i j : Int, PyData.eqv (.int i) (.int j) = (i == j) := fun _ _ => rfl
  unfold pr tlt
  rw [PySem.W.dataLt_tuple]
  by_cases h : p.1 = q.1
  · rw [PySem.W.dataLt_all_yes rfl (by rw [e1]; exact beq_iff_eq.mpr h)]
    by_cases h2 : p.2 = q.2
    · rw [PySem.W.dataLt_all_yes rfl (by rw [e1]; exact beq_iff_eq.mpr h2)]
      rw [decide_eq_false (show ¬ p.1 < q.1 by omega), decide_eq_false (show ¬ p.2 < q.2 by omega), Bool.and_false]
      rfl
    · rw [PySem.W.dataLt_all_no rfl (by rw [e1]; exact beq_eq_false_iff_ne.mpr h2), PySem.W.dataLt_int, decide_eq_false (show ¬ p.1 < q.1 by omega), decide_eq_true h]
      rfl
  · rw [PySem.W.dataLt_all_no rfl (by rw [e1]; exact beq_eq_false_iff_ne.mpr h), PySem.W.dataLt_int, decide_eq_false h, Bool.false_and, Bool.or_false]
theorem le_pr (p q : Two) : leD (pr p) (pr q) = !tlt q p := by
  unfold leD
  rw [lt_pr]
theorem le_int (i j : Int) : leD (.int i) (.int j) = decide (i ≤ j) := by
  unfold leD
  rw [PySem.W.dataLt_int, Bool.eq_iff_iff, Bool.not_eq_true', decide_eq_false_iff_not, decide_eq_true_iff]
  omega
def insT (x : Two) : List Two → List Two
  | [] => [x]
  | y :: ys => if (!tlt y x) = true then x :: y :: ys else y :: insT x ys
theorem insT_cons {x y : Two} {l : List Two} : insT x (y :: l) = if (!tlt y x) = true then x :: y :: l else y :: insT x l := rfl
def sortT : List Two → List Two
  | [] => []
  | x :: xs => insT x (sortT xs)
theorem ins_pr (x : Two) : ∀ l : List Two, insD (pr x) (l.map pr) = (insT x l).map pr
  | [] => rfl
  | y :: l => by
    show (if leD (pr x) (pr y) = true then pr x :: pr y :: l.map pr else pr y :: insD (pr x) (l.map pr)) = _
    rw [le_pr, ins_pr x l, insT_cons]
    split <;> rfl
theorem isort_pr : ∀ l : List Two, isortD (l.map pr) = (sortT l).map pr
  | [] => rfl
  | x :: l => by
    show insD (pr x) (isortD (l.map pr)) = _
    rw [isort_pr l, ins_pr]
    rfl
theorem insT_perm (x : Two) : ∀ l : List Two, (insT x l).Perm (x :: l)
  | [] => .refl _
  | y :: l => by
    rw [insT_cons]
    split
    · exact .refl _
    · exact ((insT_perm x l).cons y).trans (List.Perm.swap x y l)
theorem sortT_perm : ∀ l : List Two, (sortT l).Perm l
  | [] => .refl _
  | x :: l => (insT_perm x (sortT l)).trans ((sortT_perm l).cons x)
/-- not after -/
def nlt (p q : Two) : Prop := tlt q p = false
theorem nlt_iff {p q : Two} : nlt p q ↔ p.1 < q.1 ∨ (p.1 = q.1 ∧ p.2 ≤ q.2) := by
  unfold nlt
  rw [← Bool.not_eq_true, tlt_iff]
  omega
theorem insT_sorted {x : Two} : ∀ {l : List Two}, l.Pairwise nlt → (insT x l).Pairwise nlt
  | [], _ => List.pairwise_singleton _ _
  | y :: l, h => by
    obtain ⟨h1, h2⟩ := List.pairwise_cons.mp h
    rw [insT_cons]
    split
    · rename_i hq
      have hxy : nlt x y := by simpa [nlt] using hq
      refine List.pairwise_cons.mpr ⟨fun z hz => ?_, h⟩
      rcases List.mem_cons.mp hz with e | e
      · rw [e]; exact hxy
      · have := h1 z e
        rw [nlt_iff] at *
        omega
    · rename_i hq
      have hyx : nlt y x := by
        have : tlt y x = true := by simpa using hq
        rw [tlt_iff] at this
        rw [nlt_iff]
        omega
      refine List.pairwise_cons.mpr ⟨fun z hz => ?_, insT_sorted h2⟩
      rcases List.mem_cons.mp ((insT_perm x l).mem_iff.mp hz) with e | e
      · rw [e]; exact hyx
      · exact h1 z e
theorem sortT_sorted : ∀ l : List Two, (sortT l).Pairwise nlt
  | [] => .nil
  | _ :: l => insT_sorted (sortT_sorted l)
theorem sortT_id : ∀ {l : List Two}, l.Pairwise nlt → sortT l = l
  | [], _ => rfl
  | x :: l, h => by
    obtain ⟨h1, h2⟩ := List.pairwise_cons.mp h
    show insT x (sortT l) = _
    rw [sortT_id h2]
    match l, h1 with
    | [], _ => rfl
    | y :: l, h1 =>
      have := h1 y List.mem_cons_self
      rw [insT_cons, if_pos (by rw [show tlt y x = false from this]; rfl)]
/-- the first moment is the lesser -/
def InT (n : Nat) (t : Two) : Prop := In n t ∧ t.1 < t.2
/-- a saying as the document writes it: pairs ascending, ties in order, each once, a head of two moments -/
def Say.Td (s : Say) : Prop := (∀ t ∈ s.ties, t.1 < t.2) ∧ s.ties.Pairwise (fun p q => tlt p q = true) ∧ ∀ p, s.head = some p → p.1 ≠ p.2
theorem strict_of {l : List Two} (h : l.Pairwise nlt) (hn : l.Nodup) : l.Pairwise fun p q => tlt p q = true := by
  have := h.and hn
  refine this.imp fun {p q} ⟨h1, h2⟩ => ?_
  rw [tlt_iff]
  rw [nlt_iff] at h1
  have : p.1 ≠ q.1 ∨ p.2 ≠ q.2 := by
    by_cases e : p.1 = q.1
    · exact .inr fun e2 => h2 (Prod.ext e e2)
    · exact .inl e
  omega
theorem nlt_of {p q : Two} (h : tlt p q = true) : nlt p q := by
  rw [tlt_iff] at h
  rw [nlt_iff]
  omega
end Ev
set_option Elab.async false
set_option linter.all false
set_option maxRecDepth 100000
/-! EvE2: drawn sayings. -/
namespace Ev
open PySem PySem.Spec PyProof.Rows L2

theorem alike_pr {p q : Two} : PySem.W.alike (pr p) (pr q) = true := rfl
theorem sort_pr {ts : List Two} : sortOk (ts.map pr) = true := by
  unfold sortOk
  rw [Bool.and_eq_true, Bool.and_eq_true, Bool.or_eq_true]
  refine ⟨⟨?_, .inl ?_⟩, ?_⟩
  · unfold allAlike
    refine List.all_eq_true.mpr fun a ha => List.all_eq_true.mpr fun b hb => ?_
    obtain ⟨p, _, rfl⟩ := List.mem_map.mp ha
    obtain ⟨q, _, rfl⟩ := List.mem_map.mp hb
    rfl
  · refine List.all_eq_true.mpr fun a ha => ?_
    obtain ⟨p, _, rfl⟩ := List.mem_map.mp ha
    rfl
  · refine List.all_eq_true.mpr fun a ha => ?_
    obtain ⟨p, _, rfl⟩ := List.mem_map.mp ha
    exact decide_eq_true (by show (0 : Nat).max ((0 : Nat).max 0) + 1 ≤ 60; decide)
theorem dats_d : ∀ ds : List D, dats (ds.map .d) = some ds := dats_map
theorem bi_sorted {ds : List D} {st : Sto} (h : sortOk ds = true) (hl : ds.length ≤ 16777216) : biV false .sorted [.d (.list ds)] st = .ok (.d (.list (isortD ds))) st := by
  show (match dats (ds.map .d) with
    | some ds => if sortOk ds then mkL false ((isortD ds).map .d) st else .no
    | none => .no) = _
  rw [dats_map]
  show (if sortOk ds = true then mkL false ((isortD ds).map .d) st else .no) = _
  rw [if_pos h, mkL_d (by rw [(isortD_perm ds).length_eq]; exact hl)]
theorem sort_two {a b : Int} : sortOk [.int a, .int b] = true := rfl
theorem bi_tuple {ds : List D} {st : Sto} (hl : ds.length ≤ 16777216) : biV false .tuple [.d (.list ds)] st = .ok (.d (.tuple ds)) st := by
  show mkT (ds.map .d) st = _
  exact mkT_d hl
def eTie : E := .bi false .tuple (.cons (.bi false .sorted (.cons eMix2 .nil)) .nil)
theorem ev_bi1 {K : Ck} {r : Bool} {b : Bi} {a : E} {en : Slots} {st st1 : Sto} {x : Val} (h : evE K a en st = .ok x st1) : evE K (.bi r b (.cons a .nil)) en st = biV r b [x] st1 := by
  have e : evE K (.bi r b (.cons a .nil)) en st = (evEs K (.cons a .nil) en st).bind fun vs st1 => biV r b vs st1 := by simp only [evE]
  have e2 : evEs K (.cons a .nil) en st = (evE K a en st).bind fun x st1 => (evEs K .nil en st1).bind fun xs st2 => .ok (x :: xs) st2 := by simp only [evEs]
  rw [e, e2, h]
  rfl
theorem tie_ok {k : Nat} {n : Int} {en : Slots} {st rest : Sto} (h0 : en[0]? = some (some (.ref 2))) (h1 : en[1]? = some (some (.d (.int n)))) (hn : 2 ≤ n) (hn2 : n < 1000) (h : Gr st rest) :
    Ok (evE ⟨calls gdefs gglo (k + 2), gglo⟩ eTie en st) fun v st' => Gr st' rest ∧ ∃ t : Two, v = .d (pr t) ∧ InT n.toNat t := by
  obtain ⟨v, st1, e1, g1, a, b, rfl, ha, hb⟩ := mix2 (k := k) h0 h1 hn hn2 h
  have e2 := (ev_bi1 (r := false) (b := .sorted) e1).trans (bi_sorted sort_two (by simp))
  have e3 := (ev_bi1 (r := false) (b := .tuple) e2).trans (bi_tuple (by rw [(isortD_perm _).length_eq]; simp))
  have es : isortD [.int a, .int b] = if leD (.int a) (.int b) then [.int a, .int b] else [.int b, .int a] := rfl
  cases hq : leD (.int a) (.int b) with
  | true =>
    rw [es, hq] at e3
    rw [le_int, decide_eq_true_iff] at hq
    exact ⟨_, st1, e3, g1, (a, b), rfl, ⟨by show 0 ≤ a; omega, by show a < _; omega, by show 0 ≤ b; omega, by show b < _; omega⟩, by show a < b; omega⟩
  | false =>
    rw [es, hq] at e3
    rw [le_int, decide_eq_false_iff_not] at hq
    exact ⟨_, st1, e3, g1, (b, a), rfl, ⟨by show 0 ≤ b; omega, by show b < _; omega, by show 0 ≤ a; omega, by show a < _; omega⟩, by show b < a; omega⟩
/-- the slots of a saying being drawn -/
def sen (n most : Int) (ts : List Two) (a b : Int) (x y : Option Val) : Slots := [some (.ref 2), some (iv n), some (iv most), some (.d (.list (ts.map pr))), some (.d (.list [.int a, .int b])), x, y]
def sBody : Ss := (.cons (.set 6 eTie) (.cons (.set 3 (.bin false .add (.loc 3) (.bin false .mul (.lst false (.cons (.loc 6) .nil)) (.bi false .int (.cons (.cmp .nin (.loc 6) (.loc 3)) .nil))))) .nil))
theorem pl_pr {t : Two} {n : Nat} (h : In n t) (hn : n ≤ 1000) : Pl 1 2 (pr t) := by
  obtain ⟨h1, h2, h3, h4⟩ := h
  refine Pl.tuple (n := 0) (b := 0) (xs := [.int t.1, .int t.2]) fun x hx => ?_
  rcases List.mem_cons.mp hx with e | e
  · subst e
    exact Pl.int (log2_small (by omega))
  · rcases List.mem_cons.mp e with e | e
    · subst e
      exact Pl.int (log2_small (by omega))
    · cases e
theorem sBody_ok {k : Nat} {n most a b : Int} {ts : List Two} {x y : Option Val} {st rest : Sto} (hn : 2 ≤ n) (hn2 : n < 1000) (ht : ∀ t ∈ ts, InT n.toNat t) (hnd : ts.Nodup) (hl : ts.length ≤ 1000) (h : Gr st rest) :
    Ok (evSs ⟨calls gdefs gglo (k + 2), gglo⟩ sBody (sen n most ts a b x y) st) fun fl st' => Gr st' rest ∧ ∃ ts' y', fl = .nx (sen n most ts' a b x y') ∧ (∀ t ∈ ts', InT n.toNat t) ∧ ts'.Nodup ∧ ts'.length ≤ ts.length + 1 := by
  obtain ⟨v, st1, e1, g1, t, rfl, hti⟩ := tie_ok (k := k) (n := n) (en := sen n most ts a b x y) rfl rfl hn hn2 h
  have s1 : evS ⟨calls gdefs gglo (k + 2), gglo⟩ (.set 6 eTie) (sen n most ts a b x y) st = .ok (.nx (sen n most ts a b x (some (.d (pr t))))) st1 := by
    show R.bind (evE _ _ _ _) _ = _
    rw [e1]
    rfl
  have hc : ∃ q, cmpV .nin (.d (pr t)) (.d (.list (ts.map pr))) st1 = some q ∧ (q = true → t ∉ ts) := by
    refine ⟨!((ts.map pr).any fun z => PyData.eqv z (pr t)), ?_, fun hq hm => ?_⟩
    rotate_left
    · rw [Bool.not_eq_true', List.any_eq_false] at hq
      exact hq _ (List.mem_map_of_mem hm) (by show ((t.1 == t.1) && ((t.2 == t.2) && true)) = true; simp)
    show (if (shapedB (pr t) && shapedB (.list (ts.map pr))) = true then some (!(ts.map pr).any fun z => PyData.eqv z (pr t)) else none) = _
    rw [(pl_pr hti.1 (by omega)).shaped (by omega), (Pl.list (n := 1) (b := 2) fun z hz => by
      obtain ⟨u, hu, rfl⟩ := List.mem_map.mp hz
      exact pl_pr (ht u hu).1 (by omega)).shaped (by omega)]
    rfl
  obtain ⟨q, hc, hqn⟩ := hc
  have e2 : evE ⟨calls gdefs gglo (k + 2), gglo⟩ (.bin false .add (.loc 3) (.bin false .mul (.lst false (.cons (.loc 6) .nil)) (.bi false .int (.cons (.cmp .nin (.loc 6) (.loc 3)) .nil)))) (sen n most ts a b x (some (.d (pr t)))) st1 = .ok (.d (.list ((ts ++ if q then [t] else []).map pr))) st1 := by
    have m1 : binV false .mul (.d (.list [pr t])) (.d (.int (if q then 1 else 0))) st1 = .ok (.d (.list ((if q then [t] else []).map pr))) st1 := by cases q <;> rfl
    have m2 : binV false .add (.d (.list (ts.map pr))) (.d (.list ((if q then [t] else []).map pr))) st1 = .ok (.d (.list ((ts ++ if q then [t] else []).map pr))) st1 := by
      show mkL false ((ts.map pr).map .d ++ ((if q then [t] else []).map pr).map .d) st1 = _
      rw [← List.map_append, ← List.map_append, mkL_d]
      rw [List.length_map, List.length_append]
      cases q <;> simp <;> omega
    have m3 : evE ⟨calls gdefs gglo (k + 2), gglo⟩ (.lst false (.cons (.loc 6) .nil)) (sen n most ts a b x (some (.d (pr t)))) st1 = .ok (.d (.list [pr t])) st1 := rfl
    have m4 : evE ⟨calls gdefs gglo (k + 2), gglo⟩ (.bi false .int (.cons (.cmp .nin (.loc 6) (.loc 3)) .nil)) (sen n most ts a b x (some (.d (pr t)))) st1 = .ok (.d (.int (if q then 1 else 0))) st1 := by
      have : evE ⟨calls gdefs gglo (k + 2), gglo⟩ (.cmp .nin (.loc 6) (.loc 3)) (sen n most ts a b x (some (.d (pr t)))) st1 = .ok (.d (.bool q)) st1 := by
        show R.ofO ((cmpV .nin (.d (pr t)) (.d (.list (ts.map pr))) st1).map fun k => Val.d (.bool k)) st1 = _
        rw [hc]
        rfl
      rw [ev_bi1 this, bi_intB]
    have m5 : evE ⟨calls gdefs gglo (k + 2), gglo⟩ (.bin false .mul (.lst false (.cons (.loc 6) .nil)) (.bi false .int (.cons (.cmp .nin (.loc 6) (.loc 3)) .nil))) (sen n most ts a b x (some (.d (pr t)))) st1 = .ok (.d (.list ((if q then [t] else []).map pr))) st1 := by
      show R.bind (evE _ _ _ _) _ = _
      rw [m3]
      show R.bind (evE _ _ _ _) _ = _
      rw [m4]
      exact m1
    show R.bind (evE _ (.bin false .mul _ _) _ _) _ = _
    rw [m5]
    exact m2
  refine Ok.eq (a := .nx (sen n most (ts ++ if q then [t] else []) a b x (some (.d (pr t))))) (st := st1) ?_ ⟨g1, _, _, rfl, ?_, ?_, ?_⟩
  · unfold sBody
    rw [ss_nx s1]
    show R.bind (R.bind (evE _ _ _ _) _) _ = _
    rw [e2]
    rfl
  · intro u hu
    rcases List.mem_append.mp hu with e | e
    · exact ht u e
    · cases q with
      | true =>
        rw [if_pos rfl, List.mem_singleton] at e
        rw [e]
        exact hti
      | false => cases e
  · cases q with
    | false => simpa using hnd
    | true =>
      show (ts ++ [t]).Nodup
      exact List.nodup_append.mpr ⟨hnd, List.nodup_cons.mpr ⟨fun z => (by cases z), List.nodup_nil⟩, fun a ha b hb => by rw [List.mem_singleton] at hb; rw [hb]; exact fun z => hqn rfl (z ▸ ha)⟩
  · rw [List.length_append]
    cases q <;> simp
theorem ev_cons {K : Ck} {e : E} {es : Es} {en : Slots} {st st1 st2 : Sto} {x : Val} {xs : List Val} (h : evE K e en st = .ok x st1) (h2 : evEs K es en st1 = .ok xs st2) : evEs K (.cons e es) en st = .ok (x :: xs) st2 := by
  have e1 : evEs K (.cons e es) en st = (evE K e en st).bind fun x st1 => (evEs K es en st1).bind fun xs st2 => .ok (x :: xs) st2 := by simp only [evEs]
  rw [e1, h, bind_ok, h2]
  rfl
theorem ev_call {K : Ck} {f : Nat} {es : Es} {en : Slots} {st st1 st2 : Sto} {vs : List Val} {v : Val} (h : evEs K es en st = .ok vs st1) (h2 : K.call f vs st1 = .ok v st2) : evE K (.call f es) en st = .ok v st2 := by
  have e1 : evE K (.call f es) en st = (evEs K es en st).bind fun vs st1 => K.call f vs st1 := by simp only [evE]
  rw [e1, h, bind_ok, h2]
theorem lcF_one {K : Ck} {x : E} {own : List Nat} {g : Tg} {en en1 : Slots} {v y : Val} {st st1 : Sto} (h : asg g v (wipeE en own) = some en1) (h2 : evE K x en1 st = .ok y st1) : lcF K x own g .none en v st = .ok [y] st1 := by
  unfold lcF
  rw [h]
  show (R.bind (R.ok true st) _) = _
  rw [bind_ok, if_pos rfl, h2]
  rfl
theorem ev_ret {K : Ck} {e : E} {en : Slots} {st st1 : Sto} {v : Val} (h : evE K e en st = .ok v st1) : evS K (.ret e) en st = .ok (.rt v) st1 := by
  have e1 : evS K (.ret e) en st = (evE K e en st).bind fun x st1 => .ok (.rt x) st1 := by simp only [evS]
  rw [e1, h]
  rfl
theorem ev_set {K : Ck} {i : Nat} {e : E} {en : Slots} {st st1 : Sto} {v : Val} (h : evE K e en st = .ok v st1) : evS K (.set i e) en st = .ok (.nx (en.set i (some v))) st1 := by
  have e1 : evS K (.set i e) en st = (evE K e en st).bind fun x st1 => .ok (.nx (en.set i (some x))) st1 := by simp only [evS]
  rw [e1, h]
  rfl
theorem ev_tup {K : Ck} {es : Es} {en : Slots} {st st1 st2 : Sto} {vs : List Val} {v : Val} (h : evEs K es en st = .ok vs st1) (h2 : mkT vs st1 = .ok v st2) : evE K (.tup es) en st = .ok v st2 := by
  have e1 : evE K (.tup es) en st = (evEs K es en st).bind mkT := by simp only [evE]
  rw [e1, h, bind_ok, h2]
theorem ev_lst {K : Ck} {r : Bool} {es : Es} {en : Slots} {st st1 st2 : Sto} {vs : List Val} {v : Val} (h : evEs K es en st = .ok vs st1) (h2 : mkL r vs st1 = .ok v st2) : evE K (.lst r es) en st = .ok v st2 := by
  have e1 : evE K (.lst r es) en st = (evEs K es en st).bind (mkL r) := by simp only [evE]
  rw [e1, h, bind_ok, h2]
theorem ev_bin {K : Ck} {r : Bool} {o : Bop} {a b : E} {en : Slots} {st st1 st2 st3 : Sto} {x y v : Val} (h : evE K a en st = .ok x st1) (h2 : evE K b en st1 = .ok y st2) (h3 : binV r o x y st2 = .ok v st3) : evE K (.bin r o a b) en st = .ok v st3 := by
  have e1 : evE K (.bin r o a b) en st = (evE K a en st).bind fun x st1 => (evE K b en st1).bind fun y st2 => binV r o x y st2 := by simp only [evE]
  rw [e1, h, bind_ok, h2, bind_ok, h3]
theorem ev_cmp {K : Ck} {o : Cop} {a b : E} {en : Slots} {st st1 st2 : Sto} {x y : Val} {q : Bool} (h : evE K a en st = .ok x st1) (h2 : evE K b en st1 = .ok y st2) (h3 : cmpV o x y st2 = some q) : evE K (.cmp o a b) en st = .ok (.d (.bool q)) st2 := by
  have e1 : evE K (.cmp o a b) en st = (evE K a en st).bind fun x st1 => (evE K b en st1).bind fun y st2 => .ofO ((cmpV o x y st2).map fun k => .d (.bool k)) st2 := by simp only [evE]
  rw [e1, h, bind_ok, h2, bind_ok, h3]
  rfl
theorem ev_ite {K : Ck} {c a b : E} {en : Slots} {st st1 : Sto} {x : Val} {q : Bool} (h : evE K c en st = .ok x st1) (hq : truthV x st1 = some q) : evE K (.ite c a b) en st = if q then evE K a en st1 else evE K b en st1 := by
  have e1 : evE K (.ite c a b) en st = (evE K c en st).bind fun x st1 => match truthV x st1 with
    | some true => evE K a en st1
    | some false => evE K b en st1
    | none => .no := by
    simp only [evE] <;> rfl
  rw [e1, h, bind_ok, hq]
  cases q <;> rfl
theorem ss_ite {K : Ck} {c : E} {a b ss : Ss} {en : Slots} {st st1 : Sto} {x : Val} {q : Bool} (h : evE K c en st = .ok x st1) (hq : truthV x st1 = some q) : evS K (.ite c a b) en st = if q then evSs K a en st1 else evSs K b en st1 := by
  have e1 : evS K (.ite c a b) en st = (evE K c en st).bind fun x st1 => match truthV x st1 with
    | some true => evSs K a en st1
    | some false => evSs K b en st1
    | none => .no := by
    simp only [evS] <;> rfl
  rw [e1, h, bind_ok, hq]
  cases q <;> rfl
def eLaps : E := .call 7 (.cons (.loc 0) (.cons (.lst false (.cons (.con (.int 0)) (.cons (.con (.int 0)) (.cons (.con (.int 1)) (.cons (.call 6 (.cons (.loc 0) (.cons (.bin false .add (.loc 2) (.con (.int 1))) .nil))) .nil))))) .nil))
theorem laps_ok {k : Nat} {n most a b : Int} {ts : List Two} {x y : Option Val} {st rest : Sto} (hm : 0 ≤ most) (hm2 : most ≤ 20) (h : Gr st rest) :
    Ok (evE ⟨calls gdefs gglo (k + 2), gglo⟩ eLaps (sen n most ts a b x y) st) fun v st' => Gr st' rest ∧ ∃ j : Int, v = .d (.int j) ∧ 0 ≤ j ∧ j ≤ 21 := by
  obtain ⟨v, st1, e1, g1, w, rfl, h0, hw⟩ := pick_gr (k := k + 1) (many := most + 1) (by omega) h
  have e2 : evE ⟨calls gdefs gglo (k + 2), gglo⟩ (.call 6 (.cons (.loc 0) (.cons (.bin false .add (.loc 2) (.con (.int 1))) .nil))) (sen n most ts a b x y) st = .ok (.d (.int w)) st1 := ev_call (vs := [.ref 2, .d (.int (most + 1))]) rfl e1
  have e3 : evE ⟨calls gdefs gglo (k + 2), gglo⟩ (.lst false (.cons (.con (.int 0)) (.cons (.con (.int 0)) (.cons (.con (.int 1)) (.cons (.call 6 (.cons (.loc 0) (.cons (.bin false .add (.loc 2) (.con (.int 1))) .nil))) .nil))))) (sen n most ts a b x y) st = .ok (.d (.list [.int 0, .int 0, .int 1, .int w])) st1 := by
    show R.bind (evEs _ _ _ _) _ = _
    rw [ev_cons (x := .d (.int 0)) (st1 := st) rfl (ev_cons (x := .d (.int 0)) (st1 := st) rfl (ev_cons (x := .d (.int 1)) (st1 := st) rfl (ev_cons e2 (xs := []) (st2 := st1) rfl)))]
    rfl
  obtain ⟨v, st2, e4, g2, z, hz, rfl⟩ := of_gr (k := k) (d := .list [.int 0, .int 0, .int 1, .int w]) (.inl rfl) (by simp) (by simp) g1
  refine ⟨_, st2, ev_call (vs := [.ref 2, .d (.list [.int 0, .int 0, .int 1, .int w])]) (ev_cons (x := .ref 2) (st1 := st) rfl (ev_cons e3 (xs := []) (st2 := st1) rfl)) e4, g2, ?_⟩
  simp only [List.mem_cons, List.not_mem_nil, or_false] at hz
  rcases hz with e | e | e | e
  · subst e; exact ⟨0, rfl, by omega, by omega⟩
  · subst e; exact ⟨0, rfl, by omega, by omega⟩
  · subst e; exact ⟨1, rfl, by omega, by omega⟩
  · subst e; exact ⟨w, rfl, by omega, by omega⟩
theorem sloop_ok {k : Nat} {n most a b : Int} {st rest : Sto} (hn : 2 ≤ n) (hn2 : n < 1000) (hm : 0 ≤ most) (hm2 : most ≤ 20) (h : Gr st rest) :
    Ok (evS ⟨calls gdefs gglo (k + 2), gglo⟩ (.loop (.name 5) (.rng1 eLaps) sBody) (sen n most [] a b none none) st) fun fl st' => Gr st' rest ∧ ∃ ts x y, fl = .nx (sen n most ts a b x y) ∧ (∀ t ∈ ts, InT n.toNat t) ∧ ts.Nodup ∧ ts.length ≤ 21 := by
  obtain ⟨v, st1, e1, g1, j, rfl, h0, hj⟩ := laps_ok (k := k) (n := n) (most := most) (ts := []) (a := a) (b := b) (x := none) (y := none) hm hm2 h
  have e2 := ev_rng1 e1 (by omega) (by omega)
  have hl : (rangeI 0 j.toNat).length = j.toNat := rangeI_len _ _
  have e3 : evS ⟨calls gdefs gglo (k + 2), gglo⟩ (.loop (.name 5) (.rng1 eLaps) sBody) (sen n most [] a b none none) st = forS (fun v en1 st2 => match asg (.name 5) v en1 with
      | some en2 => evSs ⟨calls gdefs gglo (k + 2), gglo⟩ sBody en2 st2
      | none => .no) (rangeI 0 j.toNat) (sen n most [] a b none none) st1 := by
    show R.bind (evI _ _ _ _) _ = _
    rw [e2]
    rfl
  rw [e3]
  refine forS_ok (fun xs en st => Gr st rest ∧ ∃ ts x y, en = sen n most ts a b x y ∧ (∀ t ∈ ts, InT n.toNat t) ∧ ts.Nodup ∧ ts.length + xs.length ≤ 21) _ (fun z xs en st2 ⟨g2, ts, x, y, e, ht, hnd, hl2⟩ => ?_) (fun en st2 ⟨g2, ts, x, y, e, ht, hnd, hl2⟩ => ⟨g2, ts, x, y, by rw [e], ht, hnd, by simpa using hl2⟩) _ _ _ ⟨g1, [], none, none, rfl, (fun t ht => by cases ht), List.nodup_nil, by rw [hl]; simp; omega⟩
  subst e
  have hb := sBody_ok (k := k) (n := n) (most := most) (a := a) (b := b) (ts := ts) (x := some (.d z)) (y := y) hn hn2 ht hnd (by omega) g2
  refine Ok.mono (r := evSs ⟨calls gdefs gglo (k + 2), gglo⟩ sBody (sen n most ts a b (some (.d z)) y) st2) hb fun fl st3 ⟨g3, ts', y', e, ht', hnd', hl3⟩ => .inl ⟨_, .inl e, g3, ts', _, _, rfl, ht', hnd', by simp only [List.length_cons] at hl2; omega⟩
def eHead : E := .ite (.cmp .gt (.call 6 (.cons (.loc 0) (.cons (.con (.int 6)) .nil))) (.con (.int 0))) (.bi false .tuple (.cons (.loc 4) .nil)) (.con .none)
theorem head_ok {k : Nat} {n most a b : Int} {ts : List Two} {x y : Option Val} {st rest : Sto} (ha : 0 ≤ a ∧ a < n) (hb : 0 ≤ b ∧ b < n ∧ a ≠ b) (h : Gr st rest) :
    Ok (evE ⟨calls gdefs gglo (k + 2), gglo⟩ eHead (sen n most ts a b x y) st) fun v st' => Gr st' rest ∧ ∃ o, v = .d (hd o) ∧ (∀ p, o = some p → In n.toNat p) ∧ ∀ p, o = some p → p.1 ≠ p.2 := by
  obtain ⟨v, st1, e1, g1, w, rfl, h0, hw⟩ := pick_gr (k := k + 1) (many := 6) (by omega) h
  have e2 : evE ⟨calls gdefs gglo (k + 2), gglo⟩ (.call 6 (.cons (.loc 0) (.cons (.con (.int 6)) .nil))) (sen n most ts a b x y) st = .ok (.d (.int w)) st1 := ev_call (vs := [.ref 2, .d (.int 6)]) rfl e1
  have e3 : evE ⟨calls gdefs gglo (k + 2), gglo⟩ (.cmp .gt (.call 6 (.cons (.loc 0) (.cons (.con (.int 6)) .nil))) (.con (.int 0))) (sen n most ts a b x y) st = .ok (.d (.bool (decide (0 < w)))) st1 := by
    show R.bind (evE _ _ _ _) _ = _
    rw [e2]
    rfl
  by_cases hp : 0 < w
  · refine ⟨.d (pr (a, b)), st1, ?_, g1, some (a, b), rfl, fun p e => (by cases e; exact ⟨ha.1, by show a < _; omega, hb.1, by show b < _; omega⟩), fun p e => (by cases e; exact hb.2.2)⟩
    show R.bind (evE _ _ _ _) _ = _
    rw [e3, decide_eq_true hp]
    rfl
  · refine ⟨.d .none, st1, ?_, g1, none, rfl, fun p e => (by cases e), fun p e => (by cases e)⟩
    show R.bind (evE _ _ _ _) _ = _
    rw [e3, decide_eq_false hp]
    rfl
theorem say_ok {k : Nat} {n most : Int} {st rest : Sto} (hn : 2 ≤ n) (hn2 : n < 1000) (hm : 0 ≤ most) (hm2 : most ≤ 20) (h : Gr st rest) :
    Ok (calls gdefs gglo (k + 3) 11 [.ref 2, .d (.int n), .d (.int most)] st) fun v st' => Gr st' rest ∧ ∃ s : Say, v = .d (encS s) ∧ s.Ok n.toNat ∧ s.ties.length ≤ 21 ∧ s.Td := by
  rw [calls_run gd11, run_imp rfl rfl]
  obtain ⟨v, st1, e1, g1, a, b, rfl, ha, hb⟩ := mix2 (k := k) (n := n) (en := [some (.ref 2), some (iv n), some (iv most), none, none, none, none]) rfl rfl hn hn2 h
  have s1 : evS ⟨calls gdefs gglo (k + 2), gglo⟩ (.par [3, 4] (.cons (.lst false .nil) (.cons eMix2 .nil))) [some (.ref 2), some (iv n), some (iv most), none, none, none, none] st = .ok (.nx (sen n most [] a b none none)) st1 := by
    show R.bind (evEs _ _ _ _) _ = _
    rw [ev_cons (x := .d (.list [])) (st1 := st) rfl (ev_cons e1 (xs := []) (st2 := st1) rfl)]
    rfl
  obtain ⟨fl, st2, s2, g2, ts, x, y, rfl, ht, hnd, hl⟩ := sloop_ok (k := k) (n := n) (most := most) (a := a) (b := b) hn hn2 hm hm2 g1
  have e3 := (ev_bi1 (K := ⟨calls gdefs gglo (k + 2), gglo⟩) (r := false) (b := .sorted) (a := .loc 3) (en := sen n most ts a b x y) (st := st2) (st1 := st2) (x := .d (.list (ts.map pr))) rfl).trans (bi_sorted sort_pr (by rw [List.length_map]; omega))
  have e4 := (ev_bi1 (r := false) (b := .tuple) e3).trans (bi_tuple (by rw [(isortD_perm _).length_eq, List.length_map]; omega))
  rw [isort_pr] at e4
  have hP := sortT_perm ts
  have hlen := hP.length_eq
  have ht' : ∀ t ∈ sortT ts, InT n.toNat t := fun t h => ht t (hP.mem_iff.mp h)
  generalize hts : sortT ts = ts' at e4 hP hlen ht'
  have htd : ts'.Pairwise fun p q => tlt p q = true := by
    rw [← hts]
    exact strict_of (sortT_sorted ts) ((sortT_perm ts).nodup_iff.mpr hnd)
  obtain ⟨v, st3, e5, g3, o, rfl, ho, hod⟩ := head_ok (k := k) (n := n) (most := most) (ts := ts) (x := x) (y := y) ha hb g2
  refine ⟨.d (encS ⟨ts', o⟩), st3, ?_, g3, ⟨ts', o⟩, rfl, ⟨fun t h => (ht' t h).1, ho, by show ts'.length ≤ 10000; omega⟩, by show ts'.length ≤ 21; omega, fun t h => (ht' t h).2, htd, hod⟩
  show finish (evSs _ b11 [some (.ref 2), some (iv n), some (iv most), none, none, none, none] st) = _
  have e6 : evSs ⟨calls gdefs gglo (k + 2), gglo⟩ b11 [some (.ref 2), some (iv n), some (iv most), none, none, none, none] st = .ok (.rt (.d (encS ⟨ts', o⟩))) st3 := by
    exact (ss_nx s1).trans ((ss_nx s2).trans (ss_rt (ev_ret (ev_tup (ev_cons e4 (ev_cons e5 (xs := []) (st2 := st3) rfl)) rfl))))
  rw [e6]
  rfl
end Ev
set_option Elab.async false
set_option linter.all false
set_option maxRecDepth 100000
/-! EvF: drawn placings, drawn books. -/
namespace Ev
open PySem PySem.Spec PyProof.Rows L2

/-- small integers -/
def Sm (b : Nat) (ps : List Int) : Prop := ∀ p ∈ ps, p.natAbs ≤ b
theorem place_ok {k : Nat} {n : Int} {st rest : Sto} (hn : 0 ≤ n) (hn2 : n < 1000) (h : Gr st rest) :
    Ok (calls gdefs gglo (k + 3) 12 [.ref 2, .d (.int n)] st) fun v st' => Gr st' rest ∧ ∃ ps : List Int, v = .d (encP ps) ∧ ps.length = n.toNat ∧ Sm 100000000 ps := by
  rw [calls_run gd12, run_imp rfl rfl]
  obtain ⟨v, st1, e1, g1, z, hz, rfl⟩ := of_gr (k := k) (d := .list [.int 2, .int 3, .int (n + 1), .int 100000000]) (.inl rfl) (by simp) (by simp) h
  obtain ⟨m, rfl, hm1, hm2⟩ : ∃ m : Int, z = .int m ∧ 1 ≤ m ∧ m ≤ 100000000 := by
    simp only [List.mem_cons, List.not_mem_nil, or_false] at hz
    rcases hz with e | e | e | e
    · exact ⟨_, e, by omega, by omega⟩
    · exact ⟨_, e, by omega, by omega⟩
    · exact ⟨_, e, by omega, by omega⟩
    · exact ⟨_, e, by omega, by omega⟩
  have e2 : evE ⟨calls gdefs gglo (k + 2), gglo⟩ (.lst false (.cons (.con (.int 2)) (.cons (.con (.int 3)) (.cons (.bin false .add (.loc 1) (.con (.int 1))) (.cons (.bin false .pow (.con (.int 10)) (.con (.int 8))) .nil))))) [some (.ref 2), some (iv n), none, none] st = .ok (.d (.list [.int 2, .int 3, .int (n + 1), .int 100000000])) st := rfl
  have s1 := ev_set (i := 2) (ev_call (f := 7) (ev_cons (e := .loc 0) (x := .ref 2) (st1 := st) rfl (ev_cons e2 (es := .nil) (xs := []) (st2 := st) rfl)) e1)
  have ei := ev_rng1 (K := ⟨calls gdefs gglo (k + 2), gglo⟩) (a := .loc 1) (en := [some (.ref 2), some (iv n), some (iv m), none]) (st := st1) (st1 := st1) (i := n) rfl (by omega) (by omega)
  have hl : (rangeI 0 n.toNat).length = n.toNat := rangeI_len _ _
  have em := fun step => mapS_ok (f := lcF ⟨calls gdefs gglo (k + 2), gglo⟩ (.bin false .sub (.call 6 (.cons (.loc 0) (.cons (.loc 2) .nil))) (.bin false .fdiv (.loc 2) (.con (.int 3)))) [3] (.name 3) .none [some (.ref 2), some (iv n), some (iv m), none])
    (fun xs acc st => Gr st rest ∧ ∃ ps : List Int, acc = (ps.map PyData.int).map Val.d ∧ ps.length + xs.length = n.toNat ∧ Sm 100000000 ps) step (rangeI 0 n.toNat) [] st1 ⟨g1, [], rfl, by rw [hl]; simp, fun p hp => by cases hp⟩
  obtain ⟨ys, st2, e3, g2, ps, ea, hpl, hps⟩ := em fun x xs acc st2 ⟨g2, ps, ea, hpl, hps⟩ => by
    obtain ⟨v, st3, e3, g3, w, rfl, h0, hw⟩ := pick_gr (k := k + 1) (many := m) (by omega) g2
    have hd : (0 : Int) < 3 := by decide
    have hd2 : (3 : Int) < 1073741824 := by decide
    have e4 : evE ⟨calls gdefs gglo (k + 2), gglo⟩ (.call 6 (.cons (.loc 0) (.cons (.loc 2) .nil))) [some (.ref 2), some (iv n), some (iv m), some (.d x)] st2 = .ok (.d (.int w)) st3 := ev_call (vs := [.ref 2, .d (.int m)]) rfl e3
    have e5 : evE ⟨calls gdefs gglo (k + 2), gglo⟩ (.bin false .fdiv (.loc 2) (.con (.int 3))) [some (.ref 2), some (iv n), some (iv m), some (.d x)] st3 = .ok (.d (.int (m / 3))) st3 := ev_bin (x := iv m) (y := iv 3) rfl rfl (bin_fdiv hd hd2)
    have e6 := ev_bin (r := false) (o := .sub) e4 e5 bin_sub
    refine ⟨[.d (.int (w - m / 3))], st3, ?_, g3, ps ++ [w - m / 3], by rw [ea]; simp, by rw [List.length_append]; simp only [List.length_cons] at hpl; simp; omega, fun p hp => ?_⟩
    · exact lcF_one rfl e6
    · rcases List.mem_append.mp hp with e | e
      · exact hps p e
      · rw [List.mem_singleton] at e
        subst e
        omega
  rw [List.nil_append] at ea
  subst ea
  have e7 := ev_lc ei e3 (mkL_d (by rw [List.length_map]; simp at hpl; omega))
  have e8 := (ev_bi1 (r := false) (b := .tuple) e7).trans (bi_tuple (by rw [List.length_map]; simp at hpl; omega))
  refine ⟨.d (encP ps), st2, ?_, g2, ps, rfl, by simpa using hpl, hps⟩
  show finish (evSs _ b12 [some (.ref 2), some (iv n), none, none] st) = _
  have e9 : evSs ⟨calls gdefs gglo (k + 2), gglo⟩ b12 [some (.ref 2), some (iv n), none, none] st = .ok (.rt (.d (encP ps))) st2 := (ss_nx s1).trans (ss_rt (ev_ret e8))
  rw [e9]
  rfl
end Ev
set_option Elab.async false
set_option linter.all false
set_option maxRecDepth 100000
/-! EvG: drawn books. -/
namespace Ev
open PySem PySem.Spec PyProof.Rows L2

theorem Gr.last {st R : Sto} {c : Cell} (h : Gr st (R ++ [c])) : st[3 + R.length]? = some c := h.at_ (by simp)
theorem Gr.set_last {st R : Sto} {c : Cell} (h : Gr st (R ++ [c])) (c' : Cell) : Gr (st.set (3 + R.length) c') (R ++ [c']) := by
  obtain ⟨more, h⟩ := h
  refine ⟨more, ?_⟩
  have := h.set R.length c'
  rw [List.append_assoc, List.set_append_right _ _ (Nat.le_refl _), Nat.sub_self] at this
  rw [List.append_assoc]
  exact this
theorem Gr.push {st rest : Sto} (h : Gr st rest) (c : Cell) : ∃ R, st.length = 3 + R.length ∧ Gr (st ++ [c]) (R ++ [c]) ∧ ∀ st', Gr st' R → Gr st' rest := by
  obtain ⟨more, h⟩ := h
  exact ⟨rest ++ more, h.len, .of (h.push c), fun st' h' => h'.cut⟩
theorem append_run {st R : Sto} {xs : List Val} {v : Val} (h : Gr st (R ++ [.lst xs])) (hl : xs.length < 16777216) : mtV .append (.ref (3 + R.length)) [v] st = .ok (.d .none) (st.set (3 + R.length) (.lst (xs ++ [v]))) := by
  show (match st[3 + R.length]? with
    | some (.lst xs) => if xs.length < sizeLine then Ev.R.ok (Val.d .none) (st.set (3 + R.length) (.lst (xs ++ [v]))) else Ev.R.no
    | _ => Ev.R.no) = _
  rw [h.last]
  exact if_pos hl
theorem frz_run {st R : Sto} {ds : List D} (h : Gr st (R ++ [.lst (ds.map .d)])) : frz 8 (.ref (3 + R.length)) st = some (.list ds, st.set (3 + R.length) .dead) := by
  show (match st[3 + R.length]? with
    | some (.lst xs) => match frzAll (frz 7) xs (st.set (3 + R.length) .dead) with
      | some (ds, st1) => some (PyData.list ds, st1)
      | none => none
    | _ => none) = _
  rw [h.last]
  show (match frzAll (frz 7) (ds.map .d) (st.set (3 + R.length) .dead) with
      | some (ds, st1) => some (PyData.list ds, st1)
      | none => none) = _
  rw [frzAll_d]
/-- the slots of a book being drawn -/
def ben (n many : Int) (ps : List Int) (sy : Val) (way : Int) (xs : List (Option Val)) : Slots := some (.ref 2) :: some (iv n) :: some (iv many) :: some (.d (encP ps)) :: some sy :: some (iv way) :: xs
def bBody : Ss := (.cons (.set 7 (.call 11 (.cons (.loc 0) (.cons (.loc 1) (.cons (.con (.int 2)) .nil))))) (.cons (.ite (.and (.cmp .lt (.loc 5) (.con (.int 2))) (.not (.call 10 (.cons (.loc 7) (.cons (.loc 3) .nil))))) (.cons (.unp (.cons (.name 8) (.cons (.name 9) .nil)) (.loc 7)) (.cons (.set 10 (.ite (.cmp .le (.idx (.loc 3) (.con (.int 0))) (.idx (.loc 3) (.con (.int 1)))) (.tup (.cons (.con (.int 0)) (.cons (.con (.int 1)) .nil))) (.tup (.cons (.con (.int 1)) (.cons (.con (.int 0)) .nil))))) (.cons (.set 7 (.tup (.cons (.loc 8) (.cons (.ite (.isNN (.loc 9)) (.rev false (.loc 9)) (.loc 10)) .nil)))) .nil))) .nil) (.cons (.expr (.mt false .append (.loc 4) (.cons (.loc 7) .nil))) .nil)))
/-- a saying turned so that a placing may keep it -/
def turnS (s : Say) (ps : List Int) : Say := ⟨s.ties, match s.head with
  | some p => some (p.2, p.1)
  | none => if gt ps 0 ≤ gt ps 1 then some (0, 1) else some (1, 0)⟩
theorem turnS_ok {s : Say} {ps : List Int} {n : Nat} (h : s.Ok n) (hn : 2 ≤ n) : (turnS s ps).Ok n := by
  refine ⟨h.ties, fun p e => ?_, h.few⟩
  unfold turnS at e
  cases hh : s.head with
  | some q =>
    rw [hh] at e
    cases e
    obtain ⟨h1, h2, h3, h4⟩ := h.head q hh
    exact ⟨h3, h4, h1, h2⟩
  | none =>
    rw [hh] at e
    by_cases hq : gt ps 0 ≤ gt ps 1
    · simp only [hq, if_true] at e
      cases e
      exact ⟨by decide, by show (0 : Int) < n; omega, by decide, by show (1 : Int) < n; omega⟩
    · simp only [hq, if_false] at e
      cases e
      exact ⟨by decide, by show (1 : Int) < n; omega, by decide, by show (0 : Int) < n; omega⟩
theorem turnS_td {s : Say} {ps : List Int} (h : s.Td) : (turnS s ps).Td := by
  refine ⟨h.1, h.2.1, fun p e => ?_⟩
  unfold turnS at e
  cases hh : s.head with
  | some q =>
    rw [hh] at e
    cases e
    exact fun z => h.2.2 q hh z.symm
  | none =>
    rw [hh] at e
    by_cases hq : gt ps 0 ≤ gt ps 1
    · simp only [hq, if_true] at e
      cases e
      decide
    · simp only [hq, if_false] at e
      cases e
      decide
theorem turn_run {K : Ck} {n many way : Int} {ps : List Int} {sy : Val} {s : Say} {l x y z p q r t : Option Val} {st : Sto} (hps : 2 ≤ ps.length) :
    ∃ x' y' z', evSs K (.cons (.unp (.cons (.name 8) (.cons (.name 9) .nil)) (.loc 7)) (.cons (.set 10 (.ite (.cmp .le (.idx (.loc 3) (.con (.int 0))) (.idx (.loc 3) (.con (.int 1)))) (.tup (.cons (.con (.int 0)) (.cons (.con (.int 1)) .nil))) (.tup (.cons (.con (.int 1)) (.cons (.con (.int 0)) .nil))))) (.cons (.set 7 (.tup (.cons (.loc 8) (.cons (.ite (.isNN (.loc 9)) (.rev false (.loc 9)) (.loc 10)) .nil)))) .nil)))
      (ben n many ps sy way [l, some (.d (encS s)), x, y, z, p, q, r, t]) st = .ok (.nx (ben n many ps sy way [l, some (.d (encS (turnS s ps))), x', y', z', p, q, r, t])) st := by
  have h0 := ix_pl (st := st) (ps := ps) (a := 0) (by omega) (by omega)
  have h1 := ix_pl (st := st) (ps := ps) (a := 1) (by omega) (by omega)
  refine ⟨some (.d (.tuple (s.ties.map pr))), some (.d (hd s.head)), some (.d (pr (if gt ps 0 ≤ gt ps 1 then (0, 1) else (1, 0)))), ?_⟩
  rw [ss_nx (en1 := ben n many ps sy way [l, some (.d (encS s)), some (.d (.tuple (s.ties.map pr))), some (.d (hd s.head)), z, p, q, r, t]) (st1 := st) rfl]
  have e1 : evS K (.set 10 (.ite (.cmp .le (.idx (.loc 3) (.con (.int 0))) (.idx (.loc 3) (.con (.int 1)))) (.tup (.cons (.con (.int 0)) (.cons (.con (.int 1)) .nil))) (.tup (.cons (.con (.int 1)) (.cons (.con (.int 0)) .nil))))) (ben n many ps sy way [l, some (.d (encS s)), some (.d (.tuple (s.ties.map pr))), some (.d (hd s.head)), z, p, q, r, t]) st =
      .ok (.nx (ben n many ps sy way [l, some (.d (encS s)), some (.d (.tuple (s.ties.map pr))), some (.d (hd s.head)), some (.d (pr (if gt ps 0 ≤ gt ps 1 then (0, 1) else (1, 0)))), p, q, r, t])) st := by
    have ea : ∀ i, evE K (.idx (.loc 3) (.con (.int i))) (ben n many ps sy way [l, some (.d (encS s)), some (.d (.tuple (s.ties.map pr))), some (.d (hd s.head)), z, p, q, r, t]) st = R.ofO (idxV (.d (encP ps)) (.d (.int i)) st) st := fun i => rfl
    have ec := ev_cmp (K := K) (o := .le) ((ea 0).trans (by rw [h0]; rfl)) ((ea 1).trans (by rw [h1]; rfl)) cmp_le
    have ei := ev_ite (a := .tup (.cons (.con (.int 0)) (.cons (.con (.int 1)) .nil))) (b := .tup (.cons (.con (.int 1)) (.cons (.con (.int 0)) .nil))) ec truth_bool
    refine (ev_set (i := 10) (v := .d (pr (if gt ps 0 ≤ gt ps 1 then (0, 1) else (1, 0)))) (st1 := st) (ei.trans ?_)).trans rfl
    by_cases hq : gt ps 0 ≤ gt ps 1
    · rw [if_pos hq, decide_eq_true hq]
      rfl
    · rw [if_neg hq, decide_eq_false hq]
      rfl
  rw [ss_nx e1]
  have e2 : evS K (.set 7 (.tup (.cons (.loc 8) (.cons (.ite (.isNN (.loc 9)) (.rev false (.loc 9)) (.loc 10)) .nil)))) (ben n many ps sy way [l, some (.d (encS s)), some (.d (.tuple (s.ties.map pr))), some (.d (hd s.head)), some (.d (pr (if gt ps 0 ≤ gt ps 1 then (0, 1) else (1, 0)))), p, q, r, t]) st =
      .ok (.nx (ben n many ps sy way [l, some (.d (encS (turnS s ps))), some (.d (.tuple (s.ties.map pr))), some (.d (hd s.head)), some (.d (pr (if gt ps 0 ≤ gt ps 1 then (0, 1) else (1, 0)))), p, q, r, t])) st := by
    cases hh : s.head with
    | some c =>
      unfold turnS
      rw [hh]
      rfl
    | none =>
      unfold turnS
      rw [hh]
      by_cases hq : gt ps 0 ≤ gt ps 1
      · simp only [hq, if_true]
        rfl
      · simp only [hq, if_false]
        rfl
  rw [ss_nx e2]
  rfl
/-- a good saying: of moments that are there, few ties -/
def Gd (n : Nat) (s : Say) : Prop := s.Ok n ∧ s.ties.length ≤ 21 ∧ s.Td
def vS (s : Say) : Val := .d (encS s)
theorem ev_not {K : Ck} {a : E} {en : Slots} {st st1 : Sto} {x : Val} {q : Bool} (h : evE K a en st = .ok x st1) (hq : truthV x st1 = some q) : evE K (.not a) en st = .ok (.d (.bool (!q))) st1 := by
  have e1 : evE K (.not a) en st = (evE K a en st).bind fun x st1 => .ofO ((truthV x st1).map fun k => .d (.bool (!k))) st1 := by simp only [evE]
  rw [e1, h, bind_ok, hq]
  rfl
theorem ev_and {K : Ck} {a b : E} {en : Slots} {st st1 : Sto} {x : Val} {q : Bool} (h : evE K a en st = .ok x st1) (hq : truthV x st1 = some q) : evE K (.and a b) en st = if q then evE K b en st1 else .ok x st1 := by
  have e1 : evE K (.and a b) en st = (evE K a en st).bind fun x st1 => match truthV x st1 with
    | some true => evE K b en st1
    | some false => .ok x st1
    | none => .no := by
    simp only [evE] <;> rfl
  rw [e1, h, bind_ok, hq]
  cases q <;> rfl
theorem bBody_ok {k : Nat} {n many way : Int} {ps : List Int} {R : Sto} {ss : List Say} {l x y z u p q r t : Option Val} {st : Sto} (hn : 2 ≤ n) (hn2 : n < 1000) (hps : ps.length = n.toNat) (hl : ss.length < 1000) (h : Gr st (R ++ [.lst (ss.map vS)])) :
    Ok (evSs ⟨calls gdefs gglo (k + 3), gglo⟩ bBody (ben n many ps (.ref (3 + R.length)) way [l, x, y, z, u, p, q, r, t]) st) fun fl st' => ∃ s x' y' z' u', Gd n.toNat s ∧ fl = .nx (ben n many ps (.ref (3 + R.length)) way [l, x', y', z', u', p, q, r, t]) ∧ Gr st' (R ++ [.lst ((ss ++ [s]).map vS)]) := by
  obtain ⟨v, st1, e1, g1, s, rfl, hs, ht⟩ := say_ok (k := k) (n := n) (most := 2) hn hn2 (by omega) (by omega) h
  have s1 : evS ⟨calls gdefs gglo (k + 3), gglo⟩ (.set 7 (.call 11 (.cons (.loc 0) (.cons (.loc 1) (.cons (.con (.int 2)) .nil))))) (ben n many ps (.ref (3 + R.length)) way [l, x, y, z, u, p, q, r, t]) st = .ok (.nx (ben n many ps (.ref (3 + R.length)) way [l, some (vS s), y, z, u, p, q, r, t])) st1 :=
    ev_set (ev_call (vs := [.ref 2, iv n, iv 2]) rfl e1)
  have hk := lkeeps_run (k := k + 2) (st := st1) (s := s) (ps := ps) (by rw [hps]; exact hs)
  have fin : ∀ (s' : Say) (y' z' u' : Option Val), Gd n.toNat s' → evS ⟨calls gdefs gglo (k + 3), gglo⟩ (.ite (.and (.cmp .lt (.loc 5) (.con (.int 2))) (.not (.call 10 (.cons (.loc 7) (.cons (.loc 3) .nil))))) (.cons (.unp (.cons (.name 8) (.cons (.name 9) .nil)) (.loc 7)) (.cons (.set 10 (.ite (.cmp .le (.idx (.loc 3) (.con (.int 0))) (.idx (.loc 3) (.con (.int 1)))) (.tup (.cons (.con (.int 0)) (.cons (.con (.int 1)) .nil))) (.tup (.cons (.con (.int 1)) (.cons (.con (.int 0)) .nil))))) (.cons (.set 7 (.tup (.cons (.loc 8) (.cons (.ite (.isNN (.loc 9)) (.rev false (.loc 9)) (.loc 10)) .nil)))) .nil))) .nil) (ben n many ps (.ref (3 + R.length)) way [l, some (vS s), y, z, u, p, q, r, t]) st1 = .ok (.nx (ben n many ps (.ref (3 + R.length)) way [l, some (vS s'), y', z', u', p, q, r, t])) st1 →
      Ok (evSs ⟨calls gdefs gglo (k + 3), gglo⟩ bBody (ben n many ps (.ref (3 + R.length)) way [l, x, y, z, u, p, q, r, t]) st) fun fl st' => ∃ s x' y' z' u', Gd n.toNat s ∧ fl = .nx (ben n many ps (.ref (3 + R.length)) way [l, x', y', z', u', p, q, r, t]) ∧ Gr st' (R ++ [.lst ((ss ++ [s]).map vS)]) := fun s' y' z' u' hg s2 => by
    have ha := append_run (v := vS s') g1 (by rw [List.length_map]; omega)
    have hkd : kindOk .append (.ref (3 + R.length)) st1 = true := by
      simp [kindOk, lsOf, g1.last]
    have s3 : evS ⟨calls gdefs gglo (k + 3), gglo⟩ (.expr (.mt false .append (.loc 4) (.cons (.loc 7) .nil))) (ben n many ps (.ref (3 + R.length)) way [l, some (vS s'), y', z', u', p, q, r, t]) st1 = .ok (.nx (ben n many ps (.ref (3 + R.length)) way [l, some (vS s'), y', z', u', p, q, r, t])) (st1.set (3 + R.length) (.lst (ss.map vS ++ [vS s']))) := by
      show Ev.R.bind (if kindOk .append (.ref (3 + R.length)) st1 = true then mtV .append (.ref (3 + R.length)) [vS s'] st1 else .no) _ = _
      rw [if_pos hkd, ha]
      rfl
    refine ⟨.nx (ben n many ps (.ref (3 + R.length)) way [l, some (vS s'), y', z', u', p, q, r, t]), _, (ss_nx s1).trans ((ss_nx s2).trans ((ss_nx s3).trans rfl)), s', some (vS s'), y', z', u', hg, rfl, ?_⟩
    rw [List.map_append]
    exact g1.set_last _
  have ec1 : evE ⟨calls gdefs gglo (k + 3), gglo⟩ (.cmp .lt (.loc 5) (.con (.int 2))) (ben n many ps (.ref (3 + R.length)) way [l, some (vS s), y, z, u, p, q, r, t]) st1 = .ok (.d (.bool (decide (way < 2)))) st1 := rfl
  have ec2 : evE ⟨calls gdefs gglo (k + 3), gglo⟩ (.not (.call 10 (.cons (.loc 7) (.cons (.loc 3) .nil)))) (ben n many ps (.ref (3 + R.length)) way [l, some (vS s), y, z, u, p, q, r, t]) st1 = .ok (.d (.bool (!keepsM s ps))) st1 :=
    ev_not (ev_call (vs := [.d (encS s), .d (encP ps)]) rfl hk) truth_bool
  have ec3 : ∃ b, evE ⟨calls gdefs gglo (k + 3), gglo⟩ (.and (.cmp .lt (.loc 5) (.con (.int 2))) (.not (.call 10 (.cons (.loc 7) (.cons (.loc 3) .nil))))) (ben n many ps (.ref (3 + R.length)) way [l, some (vS s), y, z, u, p, q, r, t]) st1 = .ok (.d (.bool b)) st1 := by
    rw [ev_and ec1 truth_bool, ec2]
    cases decide (way < 2)
    · exact ⟨_, rfl⟩
    · exact ⟨_, rfl⟩
  obtain ⟨b, ec3⟩ := ec3
  cases b with
  | false =>
    exact fin s y z u ⟨hs, ht⟩ ((ss_ite (ss := .nil) ec3 truth_bool).trans rfl)
  | true =>
    obtain ⟨x', y', z', e⟩ := turn_run (K := ⟨calls gdefs gglo (k + 3), gglo⟩) (n := n) (many := many) (way := way) (ps := ps) (sy := .ref (3 + R.length)) (s := s) (l := l) (x := y) (y := z) (z := u) (p := p) (q := q) (r := r) (t := t) (st := st1) (by rw [hps]; omega)
    exact fin (turnS s ps) x' y' z' ⟨turnS_ok hs (by omega), ht.1, turnS_td ht.2⟩ ((ss_ite (ss := .nil) ec3 truth_bool).trans e)
end Ev
set_option Elab.async false
set_option linter.all false
set_option maxRecDepth 100000
/-! EvH: drawn books, whole. -/
namespace Ev
open PySem PySem.Spec PyProof.Rows L2

def eMany : E := .call 6 (.cons (.loc 0) (.cons (.bin false .add (.loc 2) (.con (.int 1))) .nil))
theorem bloop_ok {k : Nat} {n many way : Int} {ps : List Int} {R : Sto} {p q r t : Option Val} {st : Sto} (hn : 2 ≤ n) (hn2 : n < 1000) (hps : ps.length = n.toNat) (hm : 0 ≤ many) (hm2 : many < 900) (h : Gr st (R ++ [.lst []])) :
    Ok (evS ⟨calls gdefs gglo (k + 3), gglo⟩ (.loop (.name 6) (.rng1 eMany) bBody) (ben n many ps (.ref (3 + R.length)) way [none, none, none, none, none, p, q, r, t]) st) fun fl st' => ∃ (ss : List Say) (l x y z u : Option Val), (∀ s ∈ ss, Gd n.toNat s) ∧ ss.length ≤ many.toNat ∧ fl = .nx (ben n many ps (.ref (3 + R.length)) way [l, x, y, z, u, p, q, r, t]) ∧ Gr st' (R ++ [.lst (ss.map vS)]) := by
  obtain ⟨v, st1, e1, g1, w, rfl, h0, hw⟩ := pick_gr (k := k + 2) (many := many + 1) (by omega) h
  have e2 := ev_rng1 (K := ⟨calls gdefs gglo (k + 3), gglo⟩) (a := eMany) (en := ben n many ps (.ref (3 + R.length)) way [none, none, none, none, none, p, q, r, t]) (ev_call (vs := [.ref 2, .d (.int (many + 1))]) rfl e1) (by omega) (by omega)
  have hl : (rangeI 0 w.toNat).length = w.toNat := rangeI_len _ _
  have e3 : evS ⟨calls gdefs gglo (k + 3), gglo⟩ (.loop (.name 6) (.rng1 eMany) bBody) (ben n many ps (.ref (3 + R.length)) way [none, none, none, none, none, p, q, r, t]) st = forS (fun v en1 st2 => match asg (.name 6) v en1 with
      | some en2 => evSs ⟨calls gdefs gglo (k + 3), gglo⟩ bBody en2 st2
      | none => .no) (rangeI 0 w.toNat) (ben n many ps (.ref (3 + R.length)) way [none, none, none, none, none, p, q, r, t]) st1 := by
    show Ev.R.bind (evI _ _ _ _) _ = _
    rw [e2]
    rfl
  rw [e3]
  refine forS_ok (fun xs en st => ∃ (ss : List Say) (l x y z u : Option Val), (∀ s ∈ ss, Gd n.toNat s) ∧ ss.length + xs.length ≤ many.toNat ∧ en = ben n many ps (.ref (3 + R.length)) way [l, x, y, z, u, p, q, r, t] ∧ Gr st (R ++ [.lst (ss.map vS)])) _ (fun d xs en st2 ⟨ss, l, x, y, z, u, hg, hl2, e, g2⟩ => ?_)
    (fun en st2 ⟨ss, l, x, y, z, u, hg, hl2, e, g2⟩ => ⟨ss, l, x, y, z, u, hg, by simpa using hl2, by rw [e], g2⟩) _ _ _ ⟨[], none, none, none, none, none, (fun s hs => by cases hs), by rw [hl]; simp; omega, rfl, g1⟩
  subst e
  simp only [List.length_cons] at hl2
  have hb := bBody_ok (k := k) (n := n) (many := many) (way := way) (ps := ps) (R := R) (ss := ss) (l := some (.d d)) (x := x) (y := y) (z := z) (u := u) (p := p) (q := q) (r := r) (t := t) (st := st2) hn hn2 hps (by omega) g2
  exact Ok.mono (r := evSs ⟨calls gdefs gglo (k + 3), gglo⟩ bBody (ben n many ps (.ref (3 + R.length)) way [some (.d d), x, y, z, u, p, q, r, t]) st2) hb fun fl st3 ⟨s, x', y', z', u', hs, e, g3⟩ => .inl ⟨_, .inl e, ss ++ [s], _, x', y', z', u', fun c hc => by
    rcases List.mem_append.mp hc with e | e
    · exact hg c e
    · rw [List.mem_singleton] at e
      rw [e]
      exact hs, by rw [List.length_append]; simp; omega, rfl, g3⟩
def eRing : E := .slc false (.call 8 (.cons (.loc 0) (.cons (.lrng false (.rng1 (.loc 1))) .nil))) .none (.some (.bin false .add (.con (.int 2)) (.call 6 (.cons (.loc 0) (.cons (.bin false .sub (.loc 1) (.con (.int 1))) .nil)))))
theorem ev_slc {K : Ck} {r : Bool} {a : E} {lo hi : Eo} {en : Slots} {st st1 st2 st3 st4 : Sto} {x v : Val} {l h : Option Int} (h1 : evE K a en st = .ok x st1) (h2 : evEo K lo en st1 = .ok l st2) (h3 : evEo K hi en st2 = .ok h st3) (h4 : slV r l h x st3 = .ok v st4) : evE K (.slc r a lo hi) en st = .ok v st4 := by
  have e1 : evE K (.slc r a lo hi) en st = (evE K a en st).bind fun x st1 => (evEo K lo en st1).bind fun l st2 => (evEo K hi en st2).bind fun h st3 => slV r l h x st3 := by simp only [evE]
  rw [e1, h1, bind_ok, h2, bind_ok, h3, bind_ok, h4]
theorem evo_some {K : Ck} {e : E} {en : Slots} {st st1 : Sto} {i : Int} (h : evE K e en st = .ok (.d (.int i)) st1) : evEo K (.some e) en st = .ok (some i) st1 := by
  have e1 : evEo K (.some e) en st = (evE K e en st).bind fun x st1 => .ofO ((intV x).map some) st1 := by simp only [evEo]
  rw [e1, h]
  rfl
theorem nodup_ints {l : List Int} : (l.map PyData.int).Nodup ↔ l.Nodup := by
  unfold List.Nodup
  rw [List.pairwise_map]
  exact ⟨fun h => h.imp fun hn e => hn (by rw [e]), fun h => h.imp fun hn e => hn (PyData.int.inj e)⟩
theorem ring_ok {k : Nat} {n : Int} {en : Slots} {st rest : Sto} (h0 : en[0]? = some (some (.ref 2))) (h1 : en[1]? = some (some (.d (.int n)))) (hn : 2 ≤ n) (hn2 : n < 900) (h : Gr st rest) :
    Ok (evE ⟨calls gdefs gglo (k + 2), gglo⟩ eRing en st) fun v st' => Gr st' rest ∧ ∃ rs : List Int, v = .d (.list (rs.map PyData.int)) ∧ (∀ i ∈ rs, 0 ≤ i ∧ i < n) ∧ 2 ≤ rs.length ∧ rs.length ≤ n.toNat ∧ rs.Nodup := by
  have hl : (rangeI 0 n.toNat).length = n.toNat := rangeI_len _ _
  have e1 : evE ⟨calls gdefs gglo (k + 2), gglo⟩ (.lrng false (.rng1 (.loc 1))) en st = .ok (.d (.list (rangeI 0 n.toNat))) st := ev_lrng (r := false) (ev_rng1 (i := n) (by simp only [evE, h1]) (by omega) (by omega)) (by omega)
  obtain ⟨v, st1, e2, g1, ys, hp, rfl⟩ := mixed_gr (k := k) (d := .list (rangeI 0 n.toNat)) (.inl rfl) (by omega) h
  have hyl : ys.length = n.toNat := by rw [hp.length_eq, hl]
  obtain ⟨zs, rfl, hz⟩ := lift_list (enc := PyData.int) (P := fun i => 0 ≤ i ∧ i < n) (ys := ys) fun y hy => by
    obtain ⟨i, e, h1, h2⟩ := range_mem (hp.mem_iff.mp hy)
    exact ⟨i, e, h1, by omega⟩
  have hzn : zs.Nodup := (nodup_ints.mp (hp.nodup_iff.mpr range_nodup))
  rw [List.length_map] at hyl
  obtain ⟨v, st2, e3, g2, w, rfl, hw0, hw⟩ := pick_gr (k := k + 1) (many := n - 1) (by omega) g1
  have e4 : evE ⟨calls gdefs gglo (k + 2), gglo⟩ (.call 8 (.cons (.loc 0) (.cons (.lrng false (.rng1 (.loc 1))) .nil))) en st = .ok (.d (.list (zs.map PyData.int))) st1 :=
    ev_call (ev_cons (x := .ref 2) (st1 := st) (by simp only [evE, h0]) (ev_cons e1 (es := .nil) (xs := []) (st2 := st) rfl)) e2
  have e5 : evE ⟨calls gdefs gglo (k + 2), gglo⟩ (.bin false .sub (.loc 1) (.con (.int 1))) en st1 = .ok (.d (.int (n - 1))) st1 := ev_bin (x := .d (.int n)) (y := .d (.int 1)) (by simp only [evE, h1]) rfl bin_sub
  have e6 : evE ⟨calls gdefs gglo (k + 2), gglo⟩ (.call 6 (.cons (.loc 0) (.cons (.bin false .sub (.loc 1) (.con (.int 1))) .nil))) en st1 = .ok (.d (.int w)) st2 :=
    ev_call (ev_cons (x := .ref 2) (st1 := st1) (by simp only [evE, h0]) (ev_cons e5 (es := .nil) (xs := []) (st2 := st1) rfl)) e3
  have e7 := ev_bin (r := false) (o := .add) (a := .con (.int 2)) (x := .d (.int 2)) (st1 := st1) rfl e6 bin_add
  have hlt : (zs.map PyData.int).length ≤ 16777216 := by rw [List.length_map]; omega
  refine ⟨_, st2, ev_slc e4 (st2 := st1) (l := none) rfl (evo_some e7) (sl_take (by omega) hlt), g2, zs.take (2 + w).toNat, by rw [List.map_take], fun i hi => hz i (List.mem_of_mem_take hi), ?_, ?_, hzn.sublist (List.take_sublist _ _)⟩
  · rw [List.length_take]; omega
  · rw [List.length_take]; omega
theorem zip_pr : ∀ (xs ys : List Int), zipD (xs.map PyData.int) (ys.map PyData.int) = (xs.zip ys).map pr
  | [], _ => by simp [zipD]
  | _ :: _, [] => by simp [zipD]
  | x :: xs, y :: ys => by
    show PyData.tuple [.int x, .int y] :: zipD (xs.map PyData.int) (ys.map PyData.int) = _
    rw [zip_pr xs ys]
    rfl
theorem ring_ne {rs : List Int} (h : rs.Nodup) (h2 : 2 ≤ rs.length) {p : Two} (hp : p ∈ rs.zip (rs.drop 1 ++ rs.take 1)) : p.1 ≠ p.2 := by
  obtain ⟨i, hi, e⟩ := List.mem_iff_getElem.mp hp
  rw [List.length_zip] at hi
  have hi1 : i < rs.length := by omega
  rw [List.getElem_zip] at e
  have e1 : p.1 = rs[i] := by rw [← e]
  have e2 : p.2 = (rs.drop 1 ++ rs.take 1)[i]'(by omega) := by rw [← e]
  rw [e1, e2]
  by_cases hk : i + 1 < rs.length
  · rw [List.getElem_append_left (by rw [List.length_drop]; omega), List.getElem_drop]
    have := List.pairwise_iff_getElem.mp h i (1 + i) hi1 (by omega) (by omega)
    exact this
  · rw [List.getElem_append_right (by rw [List.length_drop]; omega), List.getElem_take]
    have := List.pairwise_iff_getElem.mp h (i - (rs.drop 1).length) i (by rw [List.length_drop]; omega) hi1 (by rw [List.length_drop]; omega)
    exact fun z => this z.symm
def eZip : I := .zip false (.loc 11) (.bin false .add (.slc false (.loc 11) (.some (.con (.int 1))) .none) (.slc false (.loc 11) .none (.some (.con (.int 1)))))
def eLate : E := .bin false .add (.lc false (.tup (.cons (.tup .nil) (.cons (.tup (.cons (.loc 13) (.cons (.loc 14) .nil))) .nil))) [13, 14] (.cons (.name 13) (.cons (.name 14) .nil)) eZip .none) (.lst false (.cons (.tup (.cons (.tup (.cons (.bi false .tuple (.cons (.bi false .sorted (.cons (.slc false (.loc 11) .none (.some (.con (.int 2)))) .nil)) .nil)) .nil)) (.cons (.con .none) .nil))) .nil))
theorem late_ok {K : Ck} {n many way : Int} {ps : List Int} {sy : Val} {l x y z u q r t : Option Val} {rs : List Int} {st : Sto} (hn2 : n < 900) (hr : ∀ i ∈ rs, 0 ≤ i ∧ i < n) (h2 : 2 ≤ rs.length) (hl : rs.length ≤ n.toNat) (hnd : rs.Nodup) :
    ∃ L : List Say, evE K eLate (ben n many ps sy way [l, x, y, z, u, some (.d (.list (rs.map PyData.int))), q, r, t]) st = .ok (.d (.list (L.map encS))) st ∧ (∀ s ∈ L, Gd n.toNat s) ∧ L.length ≤ n.toNat + 1 := by
  have hlm : (rs.map PyData.int).length ≤ 16777216 := by rw [List.length_map]; omega
  have e1 : evE K (.slc false (.loc 11) (.some (.con (.int 1))) .none) (ben n many ps sy way [l, x, y, z, u, some (.d (.list (rs.map PyData.int))), q, r, t]) st = .ok (.d (.list ((rs.drop 1).map PyData.int))) st := by
    refine ev_slc (x := .d (.list (rs.map PyData.int))) (st1 := st) (st2 := st) (st3 := st) (l := some 1) (h := none) rfl rfl rfl ?_
    rw [sl_drop (by omega) hlm, ← List.map_drop]
    rfl
  have e2 : evE K (.slc false (.loc 11) .none (.some (.con (.int 1)))) (ben n many ps sy way [l, x, y, z, u, some (.d (.list (rs.map PyData.int))), q, r, t]) st = .ok (.d (.list ((rs.take 1).map PyData.int))) st := by
    refine ev_slc (x := .d (.list (rs.map PyData.int))) (st1 := st) (st2 := st) (st3 := st) (l := none) (h := some 1) rfl rfl rfl ?_
    rw [sl_take (by omega) hlm, ← List.map_take]
    rfl
  have e3 : evE K (.bin false .add (.slc false (.loc 11) (.some (.con (.int 1))) .none) (.slc false (.loc 11) .none (.some (.con (.int 1))))) (ben n many ps sy way [l, x, y, z, u, some (.d (.list (rs.map PyData.int))), q, r, t]) st = .ok (.d (.list ((rs.drop 1 ++ rs.take 1).map PyData.int))) st := by
    refine ev_bin e1 e2 ?_
    show mkL false (((rs.drop 1).map PyData.int).map Val.d ++ ((rs.take 1).map PyData.int).map Val.d) st = _
    rw [← List.map_append, ← List.map_append, mkL_d]
    rw [List.length_map, List.length_append, List.length_drop, List.length_take]
    omega
  have e4 : evI K eZip (ben n many ps sy way [l, x, y, z, u, some (.d (.list (rs.map PyData.int))), q, r, t]) st = .ok (.stat ((rs.zip (rs.drop 1 ++ rs.take 1)).map pr)) st := by
    show Ev.R.bind (evE K _ _ _) _ = _
    rw [e3]
    show Ev.R.ok (Src.stat (zipD (rs.map PyData.int) ((rs.drop 1 ++ rs.take 1).map PyData.int))) st = _
    rw [zip_pr]
  have e5 := ev_lc (K := K) (r := false) (x := .tup (.cons (.tup .nil) (.cons (.tup (.cons (.loc 13) (.cons (.loc 14) .nil))) .nil))) (own := [13, 14]) (g := .cons (.name 13) (.cons (.name 14) .nil)) (c := .none) e4
    (mapS_map (enc := pr) (g := fun p => encS ⟨[], some p⟩) fun p _ => lcF_one (en1 := ben n many ps sy way [l, x, y, z, u, some (.d (.list (rs.map PyData.int))), q, some (iv p.1), some (iv p.2)]) rfl rfl) (mkL_d (by rw [List.length_map, List.length_zip]; omega))
  obtain ⟨a, b, rest, rfl⟩ : ∃ a b rest, rs = a :: b :: rest := by
    match rs, h2 with
    | a :: b :: rest, _ => exact ⟨a, b, rest, rfl⟩
  have ha := hr a List.mem_cons_self
  have hb := hr b (List.mem_cons_of_mem _ List.mem_cons_self)
  have e6 : evE K (.slc false (.loc 11) .none (.some (.con (.int 2)))) (ben n many ps sy way [l, x, y, z, u, some (.d (.list ((a :: b :: rest).map PyData.int))), q, r, t]) st = .ok (.d (.list [.int a, .int b])) st := by
    refine ev_slc (x := .d (.list ((a :: b :: rest).map PyData.int))) (st1 := st) (st2 := st) (st3 := st) (l := none) (h := some 2) rfl rfl rfl ?_
    rw [sl_take (by omega) hlm]
    rfl
  have e7 := (ev_bi1 (r := false) (b := .sorted) e6).trans (bi_sorted sort_two (by simp))
  have e8 := (ev_bi1 (r := false) (b := .tuple) e7).trans (bi_tuple (by rw [(isortD_perm _).length_eq]; simp))
  have hab : a ≠ b := fun e => (List.nodup_cons.mp hnd).1 (by rw [e]; exact List.mem_cons_self)
  have es : ∃ tp : Two, PyData.tuple (isortD [.int a, .int b]) = pr tp ∧ InT n.toNat tp := by
    have es : isortD [.int a, .int b] = if leD (.int a) (.int b) then [.int a, .int b] else [.int b, .int a] := rfl
    rw [es]
    cases hq : leD (.int a) (.int b)
    · rw [le_int, decide_eq_false_iff_not] at hq
      exact ⟨(b, a), rfl, ⟨by show 0 ≤ b; omega, by show b < _; omega, by show 0 ≤ a; omega, by show a < _; omega⟩, by show b < a; omega⟩
    · rw [le_int, decide_eq_true_iff] at hq
      exact ⟨(a, b), rfl, ⟨by show 0 ≤ a; omega, by show a < _; omega, by show 0 ≤ b; omega, by show b < _; omega⟩, by show a < b; omega⟩
  obtain ⟨tp, et, hti⟩ := es
  rw [et] at e8
  have e9 : evE K (.lst false (.cons (.tup (.cons (.tup (.cons (.bi false .tuple (.cons (.bi false .sorted (.cons (.slc false (.loc 11) .none (.some (.con (.int 2)))) .nil)) .nil)) .nil)) (.cons (.con .none) .nil))) .nil)) (ben n many ps sy way [l, x, y, z, u, some (.d (.list ((a :: b :: rest).map PyData.int))), q, r, t]) st = .ok (.d (.list [encS ⟨[tp], none⟩])) st :=
    ev_lst (ev_cons (ev_tup (ev_cons (ev_tup (ev_cons e8 (es := .nil) (xs := []) (st2 := st) rfl) (v := .d (.tuple [pr tp])) (st2 := st) rfl) (es := .cons (.con .none) .nil) (xs := [.d .none]) (st2 := st) rfl) (v := .d (encS ⟨[tp], none⟩)) (st2 := st) rfl) (es := .nil) (xs := []) (st2 := st) rfl) rfl
  refine ⟨((a :: b :: rest).zip ((a :: b :: rest).drop 1 ++ (a :: b :: rest).take 1)).map (fun p => ⟨[], some p⟩) ++ [⟨[tp], none⟩], ?_, fun s hs => ?_, ?_⟩
  · refine ev_bin e5 e9 ?_
    show mkL false ((((a :: b :: rest).zip ((a :: b :: rest).drop 1 ++ (a :: b :: rest).take 1)).map fun p => encS ⟨[], some p⟩).map Val.d ++ [encS ⟨[tp], none⟩].map Val.d) st = _
    rw [← List.map_append, mkL_d, List.map_append, List.map_map]
    · rfl
    · rw [List.length_append, List.length_map, List.length_zip]
      simp only [List.length_cons, List.length_nil] at hl ⊢
      omega
  · rcases List.mem_append.mp hs with e | e
    · obtain ⟨p, hp, rfl⟩ := List.mem_map.mp e
      have h1 := hr p.1 (List.of_mem_zip hp).1
      have h3 : p.2 ∈ a :: b :: rest := by
        rcases List.mem_append.mp (List.of_mem_zip hp).2 with e | e
        · exact List.mem_of_mem_drop e
        · exact List.mem_of_mem_take e
      have h4 := hr p.2 h3
      exact ⟨⟨fun _ h => (by cases h), fun c e => by cases e; exact ⟨h1.1, by omega, h4.1, by omega⟩, Nat.zero_le _⟩, Nat.zero_le _, fun _ h => (by cases h), .nil, fun c e => (by cases e; exact ring_ne hnd (by simp) hp)⟩
    · rw [List.mem_singleton] at e
      subst e
      refine ⟨⟨fun c h => ?_, fun c e => ?_, by simp⟩, by simp, fun c h => ?_, List.pairwise_singleton _ _, fun c e => by cases e⟩
      · rw [List.mem_singleton] at h
        subst h
        exact hti.1
      · cases e
      · rw [List.mem_singleton] at h
        subst h
        exact hti.2
  · rw [List.length_append, List.length_map, List.length_zip]
    simp only [List.length_cons, List.length_nil] at hl ⊢
    omega
def eMore : E := .call 8 (.cons (.loc 0) (.cons (.bin false .add (.slc false (.loc 4) .none (.some (.bi false .max2 (.cons (.con (.int 0)) (.cons (.bin false .sub (.loc 2) (.bi false .len (.cons (.loc 12) .nil))) .nil))))) (.loc 12)) .nil))
theorem more_ok {k : Nat} {n many way : Int} {ps : List Int} {ss L : List Say} {l x y z u p r t : Option Val} {st rest : Sto} (hs : ∀ s ∈ ss, Gd n.toNat s) (hL : ∀ s ∈ L, Gd n.toNat s) (h1 : ss.length < 450) (h2 : L.length < 450) (h : Gr st rest) :
    Ok (evE ⟨calls gdefs gglo (k + 2), gglo⟩ eMore (ben n many ps (.d (.list (ss.map encS))) way [l, x, y, z, u, p, some (.d (.list (L.map encS))), r, t]) st) fun v st' => Gr st' rest ∧ ∃ M : List Say, v = .d (.list (M.map encS)) ∧ (∀ s ∈ M, Gd n.toNat s) ∧ M.length ≤ ss.length + L.length := by
  obtain ⟨m, hm, e0⟩ : ∃ m : Int, 0 ≤ m ∧ evE ⟨calls gdefs gglo (k + 2), gglo⟩ (.bi false .max2 (.cons (.con (.int 0)) (.cons (.bin false .sub (.loc 2) (.bi false .len (.cons (.loc 12) .nil))) .nil))) (ben n many ps (.d (.list (ss.map encS))) way [l, x, y, z, u, p, some (.d (.list (L.map encS))), r, t]) st = .ok (.d (.int m)) st := by
    have e1 := (ev_bi1 (K := ⟨calls gdefs gglo (k + 2), gglo⟩) (r := false) (b := .len) (a := .loc 12) (en := ben n many ps (.d (.list (ss.map encS))) way [l, x, y, z, u, p, some (.d (.list (L.map encS))), r, t]) (st := st) (st1 := st) (x := .d (.list (L.map encS))) rfl).trans (bi_len len_lst)
    have e2 := ev_bin (r := false) (o := .sub) (a := .loc 2) (x := iv many) (st1 := st) rfl e1 bin_sub
    refine ⟨if many - ((L.map encS).length : Nat) > 0 then many - ((L.map encS).length : Nat) else 0, by split <;> omega, ?_⟩
    show Ev.R.bind (evEs _ _ _ _) _ = _
    rw [ev_cons (e := .con (.int 0)) (x := .d (.int 0)) (st1 := st) rfl (ev_cons e2 (es := .nil) (xs := []) (st2 := st) rfl)]
    exact bi_max2 (r := false)
  have e3 : evE ⟨calls gdefs gglo (k + 2), gglo⟩ (.slc false (.loc 4) .none (.some (.bi false .max2 (.cons (.con (.int 0)) (.cons (.bin false .sub (.loc 2) (.bi false .len (.cons (.loc 12) .nil))) .nil))))) (ben n many ps (.d (.list (ss.map encS))) way [l, x, y, z, u, p, some (.d (.list (L.map encS))), r, t]) st = .ok (.d (.list ((ss.take m.toNat).map encS))) st := by
    refine ev_slc (x := .d (.list (ss.map encS))) (st1 := st) (st2 := st) (l := none) rfl rfl (evo_some e0) ?_
    rw [sl_take hm (by rw [List.length_map]; omega), List.map_take]
  have e4 : evE ⟨calls gdefs gglo (k + 2), gglo⟩ (.bin false .add (.slc false (.loc 4) .none (.some (.bi false .max2 (.cons (.con (.int 0)) (.cons (.bin false .sub (.loc 2) (.bi false .len (.cons (.loc 12) .nil))) .nil))))) (.loc 12)) (ben n many ps (.d (.list (ss.map encS))) way [l, x, y, z, u, p, some (.d (.list (L.map encS))), r, t]) st = .ok (.d (.list ((ss.take m.toNat ++ L).map encS))) st := by
    refine ev_bin e3 (y := .d (.list (L.map encS))) (st2 := st) rfl ?_
    show mkL false (((ss.take m.toNat).map encS).map Val.d ++ (L.map encS).map Val.d) st = _
    rw [← List.map_append, ← List.map_append, mkL_d]
    rw [List.length_map, List.length_append, List.length_take]
    omega
  obtain ⟨v, st1, e5, g1, ys, hp, rfl⟩ := mixed_gr (k := k) (d := .list ((ss.take m.toNat ++ L).map encS)) (.inl rfl) (by rw [List.length_map, List.length_append, List.length_take]; omega) h
  obtain ⟨M, rfl, hM⟩ := lift_list (enc := encS) (P := Gd n.toNat) (ys := ys) fun y hy => by
    obtain ⟨s, hs', rfl⟩ := List.mem_map.mp (hp.mem_iff.mp hy)
    refine ⟨s, rfl, ?_⟩
    rcases List.mem_append.mp hs' with e | e
    · exact hs s (List.mem_of_mem_take e)
    · exact hL s e
  refine ⟨_, st1, ev_call (ev_cons (e := .loc 0) (x := .ref 2) (st1 := st) rfl (ev_cons e4 (es := .nil) (xs := []) (st2 := st) rfl)) e5, g1, M, rfl, hM, ?_⟩
  have := hp.length_eq
  rw [List.length_map, List.length_map, List.length_append, List.length_take] at this
  omega
def sTail : Ss := (.cons (.set 11 eRing) (.cons (.set 12 eLate) (.cons (.set 4 eMore) .nil)))
theorem tail_ok {k : Nat} {n many way : Int} {ps : List Int} {ss : List Say} {l x y z u p q r t : Option Val} {st rest : Sto} (hn : 2 ≤ n) (hn2 : n < 440) (hs : ∀ s ∈ ss, Gd n.toNat s) (h1 : ss.length < 450) (h : Gr st rest) :
    Ok (evSs ⟨calls gdefs gglo (k + 2), gglo⟩ sTail (ben n many ps (.d (.list (ss.map encS))) way [l, x, y, z, u, p, q, r, t]) st) fun fl st' => Gr st' rest ∧ ∃ (M : List Say) (p q : Option Val), fl = .nx (ben n many ps (.d (.list (M.map encS))) way [l, x, y, z, u, p, q, r, t]) ∧ (∀ s ∈ M, Gd n.toNat s) ∧ M.length ≤ ss.length + n.toNat + 1 := by
  obtain ⟨v, st1, e1, g1, rs, rfl, hr, hr1, hr2⟩ := ring_ok (k := k) (n := n) (en := ben n many ps (.d (.list (ss.map encS))) way [l, x, y, z, u, p, q, r, t]) rfl rfl hn (by omega) h
  obtain ⟨L, e2, hL, hl⟩ := late_ok (K := ⟨calls gdefs gglo (k + 2), gglo⟩) (n := n) (many := many) (way := way) (ps := ps) (sy := .d (.list (ss.map encS))) (l := l) (x := x) (y := y) (z := z) (u := u) (q := q) (r := r) (t := t) (st := st1) (by omega) hr hr1 hr2.1 hr2.2
  obtain ⟨v, st2, e3, g2, M, rfl, hM, hl2⟩ := more_ok (k := k) (n := n) (many := many) (way := way) (ps := ps) (l := l) (x := x) (y := y) (z := z) (u := u) (p := some (.d (.list (rs.map PyData.int)))) (r := r) (t := t) hs hL h1 (by omega) g1
  refine ⟨.nx (ben n many ps (.d (.list (M.map encS))) way [l, x, y, z, u, some (.d (.list (rs.map PyData.int))), some (.d (.list (L.map encS))), r, t]), st2, ?_, g2, M, _, _, rfl, hM, by omega⟩
  exact (ss_nx (ev_set (i := 11) e1)).trans ((ss_nx (ev_set (i := 12) e2)).trans ((ss_nx (ev_set (i := 4) e3)).trans rfl))
theorem book_ok {k : Nat} {n many : Int} {st rest : Sto} (hn : 2 ≤ n) (hn2 : n < 440) (hm : 0 ≤ many) (hm2 : many < 440) (h : Gr st rest) :
    Ok (calls gdefs gglo (k + 4) 13 [.ref 2, .d (.int n), .d (.int many)] st) fun v st' => Gr st' rest ∧ ∃ ss : List Say, v = .d (encB n ss) ∧ (∀ s ∈ ss, Gd n.toNat s) ∧ ss.length ≤ many.toNat + n.toNat + 1 := by
  rw [calls_run gd13, run_imp rfl rfl]
  obtain ⟨v, st1, e1, g1, ps, rfl, hps, _⟩ := place_ok (k := k) (n := n) (by omega) (by omega) h
  obtain ⟨R, hR, g2, back⟩ := g1.push (.lst [])
  obtain ⟨v, st3, e3, g3, way, rfl, hw0, hw⟩ := pick_gr (k := k + 2) (many := 4) (by omega) g2
  have s1 : evS ⟨calls gdefs gglo (k + 3), gglo⟩ (.par [3, 4, 5] (.cons (.call 12 (.cons (.loc 0) (.cons (.loc 1) .nil))) (.cons (.lst true .nil) (.cons (.call 6 (.cons (.loc 0) (.cons (.con (.int 4)) .nil))) .nil)))) [some (.ref 2), some (iv n), some (iv many), none, none, none, none, none, none, none, none, none, none, none, none] st =
      .ok (.nx (ben n many ps (.ref (3 + R.length)) way [none, none, none, none, none, none, none, none, none])) st3 := by
    have ea : evE ⟨calls gdefs gglo (k + 3), gglo⟩ (.call 12 (.cons (.loc 0) (.cons (.loc 1) .nil))) [some (.ref 2), some (iv n), some (iv many), none, none, none, none, none, none, none, none, none, none, none, none] st = .ok (.d (encP ps)) st1 := ev_call (vs := [.ref 2, iv n]) rfl e1
    have eb : evE ⟨calls gdefs gglo (k + 3), gglo⟩ (.lst true .nil) [some (.ref 2), some (iv n), some (iv many), none, none, none, none, none, none, none, none, none, none, none, none] st1 = .ok (.ref (3 + R.length)) (st1 ++ [.lst []]) := by
      refine ev_lst (vs := []) rfl ?_
      rw [mkL_new (by simp), hR]
    have ec : evE ⟨calls gdefs gglo (k + 3), gglo⟩ (.call 6 (.cons (.loc 0) (.cons (.con (.int 4)) .nil))) [some (.ref 2), some (iv n), some (iv many), none, none, none, none, none, none, none, none, none, none, none, none] (st1 ++ [.lst []]) = .ok (.d (.int way)) st3 := ev_call (vs := [.ref 2, iv 4]) rfl e3
    show Ev.R.bind (evEs _ _ _ _) _ = _
    rw [ev_cons ea (ev_cons eb (ev_cons ec (es := .nil) (xs := []) (st2 := st3) rfl))]
    rfl
  obtain ⟨fl, st4, s2, ss, l, x, y, z, u, hss, hsl, rfl, g4⟩ := bloop_ok (k := k) (n := n) (many := many) (way := way) (ps := ps) (R := R) (p := none) (q := none) (r := none) (t := none) hn (by omega) hps hm (by omega) g3
  have g4' : Gr st4 (R ++ [.lst ((ss.map encS).map .d)]) := by
    rw [List.map_map]
    exact g4
  have s3 : evS ⟨calls gdefs gglo (k + 3), gglo⟩ (.frz 4) (ben n many ps (.ref (3 + R.length)) way [l, x, y, z, u, none, none, none, none]) st4 = .ok (.nx (ben n many ps (.d (.list (ss.map encS))) way [l, x, y, z, u, none, none, none, none])) (st4.set (3 + R.length) .dead) := by
    show (match Ev.frz 8 (.ref (3 + R.length)) st4 with
      | some (d, st1) => Ev.R.ok (Fl.nx ((ben n many ps (.ref (3 + R.length)) way [l, x, y, z, u, none, none, none, none]).set 4 (some (.d d)))) st1
      | none => .no) = _
    rw [frz_run g4']
    rfl
  have g5 : Gr (st4.set (3 + R.length) .dead) rest := back _ (g4.set_last .dead).cut
  have ew : evE ⟨calls gdefs gglo (k + 3), gglo⟩ (.cmp .eq (.loc 5) (.con (.int 3))) (ben n many ps (.d (.list (ss.map encS))) way [l, x, y, z, u, none, none, none, none]) (st4.set (3 + R.length) .dead) = .ok (.d (.bool (way == 3))) (st4.set (3 + R.length) .dead) := rfl
  have fin : ∀ (M : List Say) (p q : Option Val) (st6 : Sto), evS ⟨calls gdefs gglo (k + 3), gglo⟩ (.ite (.cmp .eq (.loc 5) (.con (.int 3))) sTail .nil) (ben n many ps (.d (.list (ss.map encS))) way [l, x, y, z, u, none, none, none, none]) (st4.set (3 + R.length) .dead) = .ok (.nx (ben n many ps (.d (.list (M.map encS))) way [l, x, y, z, u, p, q, none, none])) st6 →
      Gr st6 rest → (∀ s ∈ M, Gd n.toNat s) → M.length ≤ many.toNat + n.toNat + 1 → Ok (finish (evSs ⟨calls gdefs gglo (k + 3), gglo⟩ b13 [some (.ref 2), some (iv n), some (iv many), none, none, none, none, none, none, none, none, none, none, none, none] st)) fun v st' => Gr st' rest ∧ ∃ ss : List Say, v = .d (encB n ss) ∧ (∀ s ∈ ss, Gd n.toNat s) ∧ ss.length ≤ many.toNat + n.toNat + 1 := fun M p q st6 s4 g6 hM hl => by
    have e5 := (ev_bi1 (K := ⟨calls gdefs gglo (k + 3), gglo⟩) (r := false) (b := .tuple) (a := .loc 4) (en := ben n many ps (.d (.list (M.map encS))) way [l, x, y, z, u, p, q, none, none]) (st := st6) (st1 := st6) (x := .d (.list (M.map encS))) rfl).trans (bi_tuple (by rw [List.length_map]; omega))
    have e6 := ev_tup (ev_cons (e := .loc 1) (x := iv n) (st1 := st6) rfl (ev_cons e5 (es := .nil) (xs := []) (st2 := st6) rfl)) (v := .d (encB n M)) (st2 := st6) rfl
    have e7 : evSs ⟨calls gdefs gglo (k + 3), gglo⟩ b13 [some (.ref 2), some (iv n), some (iv many), none, none, none, none, none, none, none, none, none, none, none, none] st = .ok (.rt (.d (encB n M))) st6 :=
      (ss_nx s1).trans ((ss_nx s2).trans ((ss_nx s3).trans ((ss_nx s4).trans (ss_rt (ev_ret e6)))))
    refine ⟨.d (encB n M), st6, ?_, g6, M, rfl, hM, hl⟩
    rw [e7]
    rfl
  by_cases hq : way = 3
  · obtain ⟨fl, st6, e8, g6, M, p, q, rfl, hM, hl⟩ := tail_ok (k := k + 1) (n := n) (many := many) (way := way) (ps := ps) (l := l) (x := x) (y := y) (z := z) (u := u) (p := none) (q := none) (r := none) (t := none) hn hn2 hss (by omega) g5
    refine fin M p q st6 ((ss_ite (ss := .nil) ew truth_bool).trans ?_) g6 hM (by omega)
    rw [hq]
    rw [hq] at e8
    exact e8
  · refine fin ss none none _ ((ss_ite (ss := .nil) ew truth_bool).trans ?_) g5 hss (by omega)
    rw [show (way == 3) = false by simpa using hq]
    rfl
end Ev
set_option Elab.async false
set_option linter.all false
set_option maxRecDepth 100000
/-! EvW: what a body does, read from the end: rules that carry the slots and the store along by themselves. -/
namespace Ev
open PySem PySem.Spec PyProof.Rows L2

section
variable {K : Ck} {en : Slots} {st : Sto}
theorem w_eq {α : Type} {r : R α} {a : α} {st : Sto} {Q : α → Sto → Prop} (e : r = .ok a st) (h : Q a st) : Ok r Q := ⟨a, st, e, h⟩
theorem w_is {α : Type} {r : R α} {a : α} {st : Sto} (h : Ok r fun v st1 => v = a ∧ st1 = st) : r = .ok a st := by
  obtain ⟨v, st1, e, rfl, rfl⟩ := h
  exact e
theorem ok_no {α β : Type} {r : R α} {f : α → Sto → R β} {Q : β → Sto → Prop} (h : Ok r fun a st => Ok (f a st) Q) : Ok (r.bind f) Q := h.bind fun _ _ h => h
theorem ok_ofO {α : Type} {o : Option α} {st : Sto} {Q : α → Sto → Prop} (h : ∃ a, o = some a ∧ Q a st) : Ok (R.ofO o st) Q := by
  obtain ⟨a, rfl, h⟩ := h
  exact .ok h
/-- what is done behind a statement -/
def after (K : Ck) (ss : Ss) (Q : Fl → Sto → Prop) : Fl → Sto → Prop
  | .nx en, st => Ok (evSs K ss en st) Q
  | fl, st => Q fl st
theorem w_ss {s : S} {ss : Ss} {Q : Fl → Sto → Prop} (h : Ok (evS K s en st) (after K ss Q)) : Ok (evSs K (.cons s ss) en st) Q := by
  obtain ⟨fl, st1, e, h⟩ := h
  show Ok ((evS K s en st).bind _) Q
  rw [e]
  cases fl with
  | nx en1 => exact h
  | rt v => exact .ok h
  | bk en1 => exact .ok h
  | ct en1 => exact .ok h
theorem w_nil {Q : Fl → Sto → Prop} (h : Q (.nx en) st) : Ok (evSs K .nil en st) Q := .ok h
theorem w_nx {ss : Ss} {Q : Fl → Sto → Prop} (h : Ok (evSs K ss en st) Q) : after K ss Q (.nx en) st := h
theorem w_rt {ss : Ss} {v : Val} {Q : Fl → Sto → Prop} (h : Q (.rt v) st) : after K ss Q (.rt v) st := h
theorem w_set {i : Nat} {e : E} {ss : Ss} {Q : Fl → Sto → Prop} (h : Ok (evE K e en st) fun v st1 => Ok (evSs K ss (en.set i (some v)) st1) Q) : Ok (evSs K (.cons (.set i e) ss) en st) Q := by
  obtain ⟨v, st1, e1, h⟩ := h
  rw [ss_nx (ev_set e1)]
  exact h
theorem w_ret {e : E} {ss : Ss} {Q : Fl → Sto → Prop} (h : Ok (evE K e en st) fun v st1 => Q (.rt v) st1) : Ok (evSs K (.cons (.ret e) ss) en st) Q := by
  obtain ⟨v, st1, e1, h⟩ := h
  rw [ss_rt (ev_ret e1)]
  exact .ok h
theorem w_expr {e : E} {ss : Ss} {Q : Fl → Sto → Prop} (h : Ok (evE K e en st) fun _ st1 => Ok (evSs K ss en st1) Q) : Ok (evSs K (.cons (.expr e) ss) en st) Q := by
  refine w_ss ?_
  have e1 : evS K (.expr e) en st = (evE K e en st).bind fun _ st1 => .ok (.nx en) st1 := by simp only [evS] <;> rfl
  rw [e1]
  exact ok_no (h.mono fun v st1 h => .ok h)
theorem w_unp {g : Tg} {e : E} {ss : Ss} {Q : Fl → Sto → Prop} (h : Ok (evE K e en st) fun v st1 => ∃ en1, asg g v en = some en1 ∧ Ok (evSs K ss en1 st1) Q) : Ok (evSs K (.cons (.unp g e) ss) en st) Q := by
  refine w_ss ?_
  have e1 : evS K (.unp g e) en st = (evE K e en st).bind fun x st1 => .ofO ((asg g x en).map .nx) st1 := by simp only [evS] <;> rfl
  rw [e1]
  refine ok_no (h.mono fun v st1 h => ?_)
  obtain ⟨en1, e2, h⟩ := h
  rw [e2]
  exact .ok h
theorem w_par {is : List Nat} {es : Es} {ss : Ss} {Q : Fl → Sto → Prop} (h : Ok (evEs K es en st) fun vs st1 => ∃ en1, setAll is vs en = some en1 ∧ Ok (evSs K ss en1 st1) Q) : Ok (evSs K (.cons (.par is es) ss) en st) Q := by
  refine w_ss ?_
  have e1 : evS K (.par is es) en st = (evEs K es en st).bind fun vs st1 => .ofO ((setAll is vs en).map .nx) st1 := by simp only [evS] <;> rfl
  rw [e1]
  refine ok_no (h.mono fun v st1 h => ?_)
  obtain ⟨en1, e2, h⟩ := h
  rw [e2]
  exact .ok h
theorem w_ite {c : E} {a b ss : Ss} {Q : Fl → Sto → Prop} (h : Ok (evE K c en st) fun v st1 => ∃ q, truthV v st1 = some q ∧ (q = true → Ok (evSs K a en st1) (after K ss Q)) ∧ (q = false → Ok (evSs K b en st1) (after K ss Q))) : Ok (evSs K (.cons (.ite c a b) ss) en st) Q := by
  refine w_ss ?_
  have e1 : evS K (.ite c a b) en st = (evE K c en st).bind fun x st1 => match truthV x st1 with
    | some true => evSs K a en st1
    | some false => evSs K b en st1
    | none => .no := by simp only [evS] <;> rfl
  rw [e1]
  refine ok_no (h.mono fun v st1 h => ?_)
  obtain ⟨q, e2, h1, h2⟩ := h
  rw [e2]
  cases q with
  | true => exact h1 rfl
  | false => exact h2 rfl
theorem w_frz {i : Nat} {ss : Ss} {Q : Fl → Sto → Prop} {v : Val} {d : D} {st1 : Sto} (h1 : en[i]? = some (some v)) (h2 : Ev.frz 8 v st = some (d, st1)) (h : Ok (evSs K ss (en.set i (some (.d d))) st1) Q) : Ok (evSs K (.cons (.frz i) ss) en st) Q := by
  refine w_ss ?_
  have e1 : evS K (.frz i) en st = (match en[i]? with
    | some (some v) => match Ev.frz 8 v st with
      | some (d, st1) => R.ok (Fl.nx (en.set i (some (.d d)))) st1
      | none => R.no
    | _ => R.no) := by simp only [evS] <;> rfl
  rw [e1, h1]
  show Ok (match Ev.frz 8 v st with
      | some (d, st1) => R.ok (Fl.nx (en.set i (some (.d d)))) st1
      | none => R.no) (after K ss Q)
  rw [h2]
  exact .ok h
/-- what a loop's turn must end in -/
def turn (P : List D → Slots → Sto → Prop) (K : Ck) (ss : Ss) (Q : Fl → Sto → Prop) (xs : List D) : Fl → Sto → Prop
  | .nx en, st => P xs en st
  | .ct en, st => P xs en st
  | .bk en, st => Ok (evSs K ss en st) Q
  | .rt v, st => Q (.rt v) st
theorem w_loop {g : Tg} {it : I} {b ss : Ss} {Q : Fl → Sto → Prop} (P : List D → Slots → Sto → Prop)
    (hi : Ok (evI K it en st) fun s st1 => ∃ xs, s = .stat xs ∧ P xs en st1)
    (hb : ∀ x xs en st, P (x :: xs) en st → ∃ en1, asg g (.d x) en = some en1 ∧ Ok (evSs K b en1 st) (turn P K ss Q xs))
    (hn : ∀ en st, P [] en st → Ok (evSs K ss en st) Q) : Ok (evSs K (.cons (.loop g it b) ss) en st) Q := by
  refine w_ss ?_
  have e : evS K (.loop g it b) en st = (evI K it en st).bind fun s st1 => forSrc (fun v en1 st2 => match asg g v en1 with
      | some en2 => evSs K b en2 st2
      | none => .no) s en st1 := by
    simp only [evS] <;> rfl
  rw [e]
  refine ok_no (hi.mono fun s st1 h => ?_)
  obtain ⟨xs, rfl, p⟩ := h
  refine forS_ok P (after K ss Q) (fun x xs en st p => ?_) (fun en st p => hn en st p) xs en st1 p
  obtain ⟨en1, e1, h⟩ := hb x xs en st p
  show Ok (match asg g (.d x) en with
      | some en2 => evSs K b en2 st
      | none => .no) _
  rw [e1]
  refine h.mono fun fl st2 h => ?_
  cases fl with
  | nx en2 => exact .inl ⟨en2, .inl rfl, h⟩
  | ct en2 => exact .inl ⟨en2, .inr rfl, h⟩
  | bk en2 => exact .inr (.inl ⟨en2, rfl, h⟩)
  | rt v => exact .inr (.inr ⟨v, rfl, h⟩)
/-! ### expressions -/
variable {Q : Val → Sto → Prop}
theorem w_con {c : D} (h : Q (.d c) st) : Ok (evE K (.con c) en st) Q := by
  have e : evE K (.con c) en st = .ok (.d c) st := by simp only [evE] <;> rfl
  rw [e]
  exact .ok h
theorem w_loc {i : Nat} (h : ∃ v, en[i]? = some (some v) ∧ Q v st) : Ok (evE K (.loc i) en st) Q := by
  obtain ⟨v, h1, h⟩ := h
  have e : evE K (.loc i) en st = (match en[i]? with
    | some (some v) => .ok v st
    | _ => .no) := by simp only [evE] <;> rfl
  rw [e, h1]
  exact .ok h
theorem w_glo {i : Nat} (h : ∃ d, K.glo i = some d ∧ Q (.d d) st) : Ok (evE K (.glo i) en st) Q := by
  obtain ⟨d, h1, h⟩ := h
  have e : evE K (.glo i) en st = .ofO ((K.glo i).map .d) st := by simp only [evE] <;> rfl
  rw [e, h1]
  exact .ok h
theorem w_tup {es : Es} (h : Ok (evEs K es en st) fun vs st1 => Ok (mkT vs st1) Q) : Ok (evE K (.tup es) en st) Q := by
  have e : evE K (.tup es) en st = (evEs K es en st).bind mkT := by simp only [evE] <;> rfl
  rw [e]
  exact ok_no h
theorem w_lst {r : Bool} {es : Es} (h : Ok (evEs K es en st) fun vs st1 => Ok (mkL r vs st1) Q) : Ok (evE K (.lst r es) en st) Q := by
  have e : evE K (.lst r es) en st = (evEs K es en st).bind (mkL r) := by simp only [evE] <;> rfl
  rw [e]
  exact ok_no h
theorem w_bin {r : Bool} {o : Bop} {a b : E} (h : Ok (evE K a en st) fun x st1 => Ok (evE K b en st1) fun y st2 => Ok (binV r o x y st2) Q) : Ok (evE K (.bin r o a b) en st) Q := by
  have e : evE K (.bin r o a b) en st = (evE K a en st).bind fun x st1 => (evE K b en st1).bind fun y st2 => binV r o x y st2 := by simp only [evE] <;> rfl
  rw [e]
  exact ok_no (h.mono fun _ _ h => ok_no h)
theorem w_neg {a : E} (h : Ok (evE K a en st) fun x st1 => ∃ i, x = .d (.int i) ∧ Q (.d (.int (-i))) st1) : Ok (evE K (.neg a) en st) Q := by
  have e : evE K (.neg a) en st = (evE K a en st).bind fun x st1 => .ofO ((intV x).map fun i => .d (.int (-i))) st1 := by simp only [evE] <;> rfl
  rw [e]
  refine ok_no (h.mono fun x st1 h => ?_)
  obtain ⟨i, rfl, h⟩ := h
  exact .ok h
theorem w_not {a : E} (h : Ok (evE K a en st) fun x st1 => ∃ q, truthV x st1 = some q ∧ Q (.d (.bool (!q))) st1) : Ok (evE K (.not a) en st) Q := by
  have e : evE K (.not a) en st = (evE K a en st).bind fun x st1 => .ofO ((truthV x st1).map fun k => .d (.bool (!k))) st1 := by simp only [evE] <;> rfl
  rw [e]
  refine ok_no (h.mono fun x st1 h => ?_)
  obtain ⟨q, e1, h⟩ := h
  rw [e1]
  exact .ok h
theorem w_cmp {o : Cop} {a b : E} (h : Ok (evE K a en st) fun x st1 => Ok (evE K b en st1) fun y st2 => ∃ q, cmpV o x y st2 = some q ∧ Q (.d (.bool q)) st2) : Ok (evE K (.cmp o a b) en st) Q := by
  have e : evE K (.cmp o a b) en st = (evE K a en st).bind fun x st1 => (evE K b en st1).bind fun y st2 => .ofO ((cmpV o x y st2).map fun k => .d (.bool k)) st2 := by simp only [evE] <;> rfl
  rw [e]
  refine ok_no (h.mono fun _ _ h => ok_no (h.mono fun x st1 h => ?_))
  obtain ⟨q, e1, h⟩ := h
  rw [e1]
  exact .ok h
theorem w_and {a b : E} (h : Ok (evE K a en st) fun x st1 => ∃ q, truthV x st1 = some q ∧ (q = true → Ok (evE K b en st1) Q) ∧ (q = false → Q x st1)) : Ok (evE K (.and a b) en st) Q := by
  have e : evE K (.and a b) en st = (evE K a en st).bind fun x st1 => match truthV x st1 with
    | some true => evE K b en st1
    | some false => .ok x st1
    | none => .no := by simp only [evE] <;> rfl
  rw [e]
  refine ok_no (h.mono fun x st1 h => ?_)
  obtain ⟨q, e1, h1, h2⟩ := h
  rw [e1]
  cases q with
  | true => exact h1 rfl
  | false => exact .ok (h2 rfl)
theorem w_or {a b : E} (h : Ok (evE K a en st) fun x st1 => ∃ q, truthV x st1 = some q ∧ (q = true → Q x st1) ∧ (q = false → Ok (evE K b en st1) Q)) : Ok (evE K (.or a b) en st) Q := by
  have e : evE K (.or a b) en st = (evE K a en st).bind fun x st1 => match truthV x st1 with
    | some true => .ok x st1
    | some false => evE K b en st1
    | none => .no := by simp only [evE] <;> rfl
  rw [e]
  refine ok_no (h.mono fun x st1 h => ?_)
  obtain ⟨q, e1, h1, h2⟩ := h
  rw [e1]
  cases q with
  | true => exact .ok (h1 rfl)
  | false => exact h2 rfl
theorem w_iff {c a b : E} (h : Ok (evE K c en st) fun x st1 => ∃ q, truthV x st1 = some q ∧ (q = true → Ok (evE K a en st1) Q) ∧ (q = false → Ok (evE K b en st1) Q)) : Ok (evE K (.ite c a b) en st) Q := by
  have e : evE K (.ite c a b) en st = (evE K c en st).bind fun x st1 => match truthV x st1 with
    | some true => evE K a en st1
    | some false => evE K b en st1
    | none => .no := by simp only [evE] <;> rfl
  rw [e]
  refine ok_no (h.mono fun x st1 h => ?_)
  obtain ⟨q, e1, h1, h2⟩ := h
  rw [e1]
  cases q with
  | true => exact h1 rfl
  | false => exact h2 rfl
theorem w_isN {a : E} (h : Ok (evE K a en st) fun x st1 => Q (.d (.bool (noneB x))) st1) : Ok (evE K (.isN a) en st) Q := by
  have e : evE K (.isN a) en st = (evE K a en st).bind fun x st1 => .ok (.d (.bool (noneB x))) st1 := by simp only [evE] <;> rfl
  rw [e]
  exact ok_no (h.mono fun x st1 h => .ok h)
theorem w_isNN {a : E} (h : Ok (evE K a en st) fun x st1 => Q (.d (.bool (!noneB x))) st1) : Ok (evE K (.isNN a) en st) Q := by
  have e : evE K (.isNN a) en st = (evE K a en st).bind fun x st1 => .ok (.d (.bool (!noneB x))) st1 := by simp only [evE] <;> rfl
  rw [e]
  exact ok_no (h.mono fun x st1 h => .ok h)
theorem w_call {f : Nat} {es : Es} (h : Ok (evEs K es en st) fun vs st1 => Ok (K.call f vs st1) Q) : Ok (evE K (.call f es) en st) Q := by
  have e : evE K (.call f es) en st = (evEs K es en st).bind fun vs st1 => K.call f vs st1 := by simp only [evE] <;> rfl
  rw [e]
  exact ok_no h
theorem w_bi {r : Bool} {b : Bi} {es : Es} (h : Ok (evEs K es en st) fun vs st1 => Ok (biV r b vs st1) Q) : Ok (evE K (.bi r b es) en st) Q := by
  have e : evE K (.bi r b es) en st = (evEs K es en st).bind fun vs st1 => biV r b vs st1 := by simp only [evE] <;> rfl
  rw [e]
  exact ok_no h
theorem w_mt {r : Bool} {m : Mt} {o : E} {es : Es} (h : Ok (evE K o en st) fun x st1 => kindOk m x st1 = true ∧ Ok (evEs K es en st1) fun vs st2 => Ok (mtV m x vs st2) Q) : Ok (evE K (.mt r m o es) en st) Q := by
  have e : evE K (.mt r m o es) en st = (evE K o en st).bind fun x st1 => if kindOk m x st1 then (evEs K es en st1).bind fun vs st2 => mtV m x vs st2 else .no := by simp only [evE] <;> rfl
  rw [e]
  refine ok_no (h.mono fun x st1 h => ?_)
  rw [if_pos h.1]
  exact ok_no h.2
theorem w_idx {a b : E} (h : Ok (evE K a en st) fun x st1 => Ok (evE K b en st1) fun y st2 => ∃ v, idxV x y st2 = some v ∧ Q v st2) : Ok (evE K (.idx a b) en st) Q := by
  have e : evE K (.idx a b) en st = (evE K a en st).bind fun x st1 => (evE K b en st1).bind fun y st2 => .ofO (idxV x y st2) st2 := by simp only [evE] <;> rfl
  rw [e]
  exact ok_no (h.mono fun _ _ h => ok_no (h.mono fun x st1 h => ok_ofO h))
theorem w_slc {r : Bool} {a : E} {lo hi : Eo} (h : Ok (evE K a en st) fun x st1 => Ok (evEo K lo en st1) fun l st2 => Ok (evEo K hi en st2) fun h st3 => Ok (slV r l h x st3) Q) : Ok (evE K (.slc r a lo hi) en st) Q := by
  have e : evE K (.slc r a lo hi) en st = (evE K a en st).bind fun x st1 => (evEo K lo en st1).bind fun l st2 => (evEo K hi en st2).bind fun h st3 => slV r l h x st3 := by simp only [evE] <;> rfl
  rw [e]
  exact ok_no (h.mono fun _ _ h => ok_no (h.mono fun _ _ h => ok_no h))
theorem w_on {Q : Option Int → Sto → Prop} (h : Q none st) : Ok (evEo K .none en st) Q := by
  have e : evEo K .none en st = .ok none st := by simp only [evEo] <;> rfl
  rw [e]
  exact .ok h
theorem w_os {e : E} {Q : Option Int → Sto → Prop} (h : Ok (evE K e en st) fun x st1 => ∃ i, x = .d (.int i) ∧ Q (some i) st1) : Ok (evEo K (.some e) en st) Q := by
  have e1 : evEo K (.some e) en st = (evE K e en st).bind fun x st1 => .ofO ((intV x).map some) st1 := by simp only [evEo] <;> rfl
  rw [e1]
  refine ok_no (h.mono fun x st1 h => ?_)
  obtain ⟨i, rfl, h⟩ := h
  exact .ok h
theorem w_rev {r : Bool} {a : E} (h : Ok (evE K a en st) fun x st1 => Ok (revV r x st1) Q) : Ok (evE K (.rev r a) en st) Q := by
  have e : evE K (.rev r a) en st = (evE K a en st).bind fun x st1 => revV r x st1 := by simp only [evE] <;> rfl
  rw [e]
  exact ok_no h
theorem w_sset {r : Bool} {a : E} (h : Ok (evE K a en st) fun x st1 => Ok (ssetV r x st1) Q) : Ok (evE K (.sset r a) en st) Q := by
  have e : evE K (.sset r a) en st = (evE K a en st).bind fun x st1 => ssetV r x st1 := by simp only [evE] <;> rfl
  rw [e]
  exact ok_no h
theorem w_lrng {it : I} {r : Bool} (h : Ok (evI K it en st) fun s st1 => ∃ xs, s = .stat xs ∧ Ok (mkL r (xs.map .d) st1) Q) : Ok (evE K (.lrng r it) en st) Q := by
  have e : evE K (.lrng r it) en st = (evI K it en st).bind fun s st1 => match s with
    | .stat xs => mkL r (xs.map .d) st1
    | .live _ => .no := by simp only [evE] <;> rfl
  rw [e]
  refine ok_no (h.mono fun s st1 h => ?_)
  obtain ⟨xs, rfl, h⟩ := h
  exact h
theorem w_lc {r : Bool} {x : E} {own : List Nat} {g : Tg} {it : I} {c : Eo} (h : Ok (evI K it en st) fun s st1 => ∃ zs, s = .stat zs ∧ Ok (mapS (lcF K x own g c en) zs st1) fun ys st2 => Ok (mkL r ys st2) Q) : Ok (evE K (.lc r x own g it c) en st) Q := by
  obtain ⟨s, st1, e1, zs, rfl, ys, st2, e2, v, st3, e3, h⟩ := h
  rw [ev_lc e1 e2 e3]
  exact .ok h
theorem w_enil {Q : List Val → Sto → Prop} (h : Q [] st) : Ok (evEs K .nil en st) Q := by
  have e : evEs K .nil en st = .ok [] st := by simp only [evEs] <;> rfl
  rw [e]
  exact .ok h
theorem w_cons {e : E} {es : Es} {Q : List Val → Sto → Prop} (h : Ok (evE K e en st) fun x st1 => Ok (evEs K es en st1) fun xs st2 => Q (x :: xs) st2) : Ok (evEs K (.cons e es) en st) Q := by
  have e1 : evEs K (.cons e es) en st = (evE K e en st).bind fun x st1 => (evEs K es en st1).bind fun xs st2 => .ok (x :: xs) st2 := by simp only [evEs] <;> rfl
  rw [e1]
  exact ok_no (h.mono fun x st1 h => ok_no (h.mono fun xs st2 h => .ok h))
theorem w_star {e : E} {es : Es} {Q : List Val → Sto → Prop} (h : Ok (evE K e en st) fun x st1 => ∃ xs, seqOf x st1 = some xs ∧ Ok (evEs K es en st1) fun ys st2 => Q (xs ++ ys) st2) : Ok (evEs K (.star e es) en st) Q := by
  have e1 : evEs K (.star e es) en st = (evE K e en st).bind fun x st1 => match seqOf x st1 with
    | some xs => (evEs K es en st1).bind fun ys st2 => .ok (xs ++ ys) st2
    | none => .no := by simp only [evEs] <;> rfl
  rw [e1]
  refine ok_no (h.mono fun x st1 h => ?_)
  obtain ⟨xs, e2, h⟩ := h
  rw [e2]
  exact ok_no (h.mono fun xs st2 h => .ok h)
/-! ### what is walked -/
theorem w_ex {e : E} {Q : Src → Sto → Prop} (h : Ok (evE K e en st) fun x st1 => ∃ s, srcOf x st1 = some s ∧ Q s st1) : Ok (evI K (.ex e) en st) Q := by
  have e1 : evI K (.ex e) en st = (evE K e en st).bind fun x st1 => .ofO (srcOf x st1) st1 := by simp only [evI] <;> rfl
  rw [e1]
  exact ok_no (h.mono fun x st1 h => ok_ofO h)
theorem w_rng1 {e : E} {Q : Src → Sto → Prop} (h : Ok (evE K e en st) fun x st1 => ∃ i, x = .d (.int i) ∧ -16777216 < i ∧ i < 16777216 ∧ Q (.stat (rangeI 0 i.toNat)) st1) : Ok (evI K (.rng1 e) en st) Q := by
  obtain ⟨x, st1, e1, i, rfl, h1, h2, h⟩ := h
  rw [ev_rng1 e1 h1 h2]
  exact .ok h
theorem w_rng2 {a b : E} {Q : Src → Sto → Prop} (h : Ok (evE K a en st) fun x st1 => Ok (evE K b en st1) fun y st2 => ∃ i j, x = .d (.int i) ∧ y = .d (.int j) ∧ -16777216 < i ∧ i < 16777216 ∧ -16777216 < j ∧ j < 16777216 ∧ Q (.stat (rangeI i (j - i).toNat)) st2) : Ok (evI K (.rng2 a b) en st) Q := by
  obtain ⟨x, st1, e1, y, st2, e2, i, j, rfl, rfl, h1, h2, h3, h4, h⟩ := h
  rw [ev_rng2 e1 e2 h1 h2 h3 h4]
  exact .ok h
theorem w_enm {e : E} {Q : Src → Sto → Prop} (h : Ok (evE K e en st) fun x st1 => ∃ xs, (x = .d (.list xs) ∨ x = .d (.tuple xs)) ∧ Q (.stat (enumD 0 xs)) st1) : Ok (evI K (.enm e) en st) Q := by
  have e1 : evI K (.enm e) en st = (evE K e en st).bind fun x st1 => match x with
    | .d (.list xs) => .ok (.stat (enumD 0 xs)) st1
    | .d (.tuple xs) => .ok (.stat (enumD 0 xs)) st1
    | _ => .no := by
    simp only [evI] <;> rfl
  rw [e1]
  refine ok_no (h.mono fun x st1 h => ?_)
  obtain ⟨xs, rfl | rfl, h⟩ := h
  · exact .ok h
  · exact .ok h
/-! ### a comprehension's turn -/
theorem w_lcF {x : E} {own : List Nat} {g : Tg} {en1 : Slots} {v : Val} {Q : List Val → Sto → Prop} (h1 : asg g v (wipeE en own) = some en1) (h : Ok (evE K x en1 st) fun y st1 => Q [y] st1) : Ok (lcF K x own g .none en v st) Q := by
  obtain ⟨y, st1, e1, h⟩ := h
  rw [lcF_one h1 e1]
  exact .ok h
theorem w_lcC {x c : E} {own : List Nat} {g : Tg} {en1 : Slots} {v : Val} {Q : List Val → Sto → Prop} (h1 : asg g v (wipeE en own) = some en1) (h : Ok (evE K c en1 st) fun y st1 => ∃ q, truthV y st1 = some q ∧ (q = true → Ok (evE K x en1 st1) fun y st2 => Q [y] st2) ∧ (q = false → Q [] st1)) : Ok (lcF K x own g (.some c) en v st) Q := by
  unfold lcF
  rw [h1]
  show Ok ((evC K (.some c) en1 st).bind _) Q
  have e1 : evC K (.some c) en1 st = (evE K c en1 st).bind fun x st1 => .ofO (truthV x st1) st1 := by simp only [evC] <;> rfl
  rw [e1]
  obtain ⟨y, st1, e2, q, e3, h1, h2⟩ := h
  rw [e2, bind_ok, e3]
  cases q with
  | true =>
    show Ok ((evE K x en1 st1).bind _) Q
    exact ok_no ((h1 rfl).mono fun y st2 h => .ok h)
  | false => exact .ok (h2 rfl)
/-! ### calls of pure defs -/
theorem w_pure {d : Def} {ds : List D} {st : Sto} (h1 : ds.length = d.np) (h2 : d.pure = true) (h : Ok (evSs K d.body (startE d.ns (ds.map .d)) []) fun fl _ => ∃ x, fl = .rt (.d x) ∧ Q (.d x) st) : Ok (runDef K d (ds.map .d) st) Q := by
  obtain ⟨fl, st0, e, x, rfl, h⟩ := h
  rw [run_pure (st0 := st0) h1 h2 (x := x) (by rw [e]; rfl)]
  exact .ok h
theorem w_imp {d : Def} {vs : List Val} {st : Sto} (h1 : vs.length = d.np) (h2 : d.pure = false) (h : Ok (evSs K d.body (startE d.ns vs) st) fun fl st1 => ∃ v, fl = .rt v ∧ Q v st1) : Ok (runDef K d vs st) Q := by
  rw [run_imp h1 h2]
  obtain ⟨fl, st1, e, v, rfl, h⟩ := h
  rw [e]
  exact .ok h
end
/-! ### the newest place -/
section
variable {st : Sto} {xs : List Val} {ds : List D} {v : Val}
theorem at_new {c : Cell} : (st ++ [c])[st.length]? = some c := by simp
theorem set_new {c e : Cell} : (st ++ [c]).set st.length e = st ++ [e] := by simp
theorem lsOf_new : lsOf (.ref st.length) (st ++ [.lst xs]) = some xs := by
  unfold lsOf
  simp only [at_new]
theorem kind_new : kindOk .append (.ref st.length) (st ++ [.lst xs]) = true := by
  unfold kindOk
  simp only [lsOf_new]
  rfl
theorem app_new (h : xs.length < 16777216) : mtV .append (.ref st.length) [v] (st ++ [.lst xs]) = .ok (.d .none) (st ++ [.lst (xs ++ [v])]) := by
  simp only [mtV, at_new]
  rw [if_pos (show xs.length < sizeLine from h), set_new]
theorem add_new {r : Bool} {y : Val} {ys : List Val} (h : lsOf y (st ++ [.lst xs]) = some ys) : binV r .add (.ref st.length) y (st ++ [.lst xs]) = mkL r (xs ++ ys) (st ++ [.lst xs]) := by
  unfold binV
  simp only [lsOf_new, h]
theorem frz_new : frz 8 (.ref st.length) (st ++ [.lst (ds.map .d)]) = some (.list ds, st ++ [.dead]) := by
  unfold frz
  simp only [at_new, set_new, frzAll_d]
theorem dvAll_d {n : Nat} : ∀ ds : List D, dvAll (fun v => dv n v st) (ds.map .d) = some ds
  | [] => rfl
  | d :: ds => by
    have e : dv n (.d d) st = some d := by cases n <;> rfl
    show (match dv n (.d d) st, dvAll (fun v => dv n v st) (ds.map .d) with
      | some d, some ds => some (d :: ds)
      | _, _ => none) = _
    rw [e, dvAll_d ds]
theorem dv_new : dv 8 (.ref st.length) (st ++ [.lst (ds.map .d)]) = some (.list ds) := by
  unfold dv
  simp only [at_new]
  rw [dvAll_d]
  rfl
end
theorem plA_nil {n b : Nat} : ∀ x ∈ ([] : List D), Pl n b x := fun x h => by cases h
theorem plA_cons {n b : Nat} {x : D} {xs : List D} (h : Pl n b x) (hs : ∀ y ∈ xs, Pl n b y) : ∀ y ∈ x :: xs, Pl n b y := fun y hy => by
  rcases List.mem_cons.mp hy with e | e
  · rw [e]; exact h
  · exact hs y e
theorem w_mkT {vs : List Val} {st : Sto} {Q : Val → Sto → Prop} (h : ∃ v st1, mkT vs st = .ok v st1 ∧ Q v st1) : Ok (mkT vs st) Q := h
theorem w_mkL {r : Bool} {vs : List Val} {st : Sto} {Q : Val → Sto → Prop} (h : ∃ v st1, mkL r vs st = .ok v st1 ∧ Q v st1) : Ok (mkL r vs st) Q := h
theorem ex_id {α : Type} {p : α → Prop} (h : ∃ x, p x) : ∃ x, p x := h
theorem conj_f {q : Bool} {A B : Prop} (hq : q = false) (h : B) : (q = true → A) ∧ (q = false → B) := ⟨fun e => (by rw [hq] at e; cases e), fun _ => h⟩
theorem conj_t {q : Bool} {A B : Prop} (hq : q = true) (h : A) : (q = true → A) ∧ (q = false → B) := ⟨fun _ => h, fun e => (by rw [hq] at e; cases e)⟩
theorem ne_self {s t : Str} (h : s = t) : (!decide (s = t)) = false := by rw [decide_eq_true h]; rfl
theorem mapS_map2 {β γ : Type} {enc : β → D} {enc2 : γ → D} {f : Val → Sto → R (List Val)} {h : β → γ} {st : Sto} {zs : List β} (hf : ∀ z ∈ zs, f (.d (enc z)) st = .ok [.d (enc2 (h z))] st) : mapS f (zs.map enc) st = .ok (((zs.map h).map enc2).map .d) st := by
  have e := mapS_map (g := enc2 ∘ h) hf
  rw [e, List.map_map (f := h) (g := enc2)]
theorem bi_list {ds : List D} {st : Sto} (hl : ds.length ≤ 16777216) : biV false .list [.d (.tuple ds)] st = .ok (.d (.list ds)) st := by
  show mkL false (ds.map .d) st = _
  exact mkL_d hl
theorem Gr.more {st rest : Sto} (h : Gr st rest) (cs : List Cell) : Gr (st ++ cs) rest := by
  obtain ⟨more, ns, xs, l, m, t, rfl, hc⟩ := h
  exact ⟨more ++ cs, ns, xs, l, m, t, by simp [SS], hc⟩
end Ev
set_option Elab.async false
set_option linter.all false
set_option maxRecDepth 100000
/-! EvI: a placing's order keeps the same sayings. -/
namespace Ev
open PySem PySem.Spec PyProof.Rows L2

theorem ix_inj {x y : Int} : ∀ {L : List Int}, x ∈ L → y ∈ L → ix x L = ix y L → x = y
  | [], h, _, _ => by cases h
  | z :: L, hx, hy, e => by
    unfold ix at e
    by_cases h1 : z = x
    · by_cases h2 : z = y
      · rw [← h1, h2]
      · rw [if_pos h1, if_neg h2] at e
        cases e
    · by_cases h2 : z = y
      · rw [if_neg h1, if_pos h2] at e
        cases e
      · rw [if_neg h1, if_neg h2] at e
        have hx' : x ∈ L := by
          rcases List.mem_cons.mp hx with e | e
          · exact absurd e.symm h1
          · exact e
        have hy' : y ∈ L := by
          rcases List.mem_cons.mp hy with e | e
          · exact absurd e.symm h2
          · exact e
        exact ix_inj hx' hy' (by omega)
theorem ix_lt_iff {x y : Int} : ∀ {L : List Int}, L.Pairwise (· < ·) → x ∈ L → y ∈ L → x < y → ix x L < ix y L
  | [], _, h, _, _ => by cases h
  | z :: L, hp, hx, hy, hlt => by
    obtain ⟨h1, h2⟩ := List.pairwise_cons.mp hp
    unfold ix
    by_cases e1 : z = x
    · rw [if_pos e1, if_neg (by omega)]
      exact Nat.succ_pos _
    · have hx' : x ∈ L := by
        rcases List.mem_cons.mp hx with e | e
        · exact absurd e.symm e1
        · exact e
      have := h1 x hx'
      rw [if_neg e1, if_neg (by omega)]
      have hy' : y ∈ L := by
        rcases List.mem_cons.mp hy with e | e
        · omega
        · exact e
      exact Nat.succ_lt_succ (ix_lt_iff h2 hx' hy' hlt)
theorem ix_le_iff {x y : Int} {L : List Int} (hp : L.Pairwise (· < ·)) (hx : x ∈ L) (hy : y ∈ L) : ix x L ≤ ix y L ↔ x ≤ y := by
  constructor
  · intro h
    by_cases hle : x ≤ y
    · exact hle
    · have := ix_lt_iff hp hy hx (by omega)
      omega
  · intro h
    by_cases e : x = y
    · rw [e]; exact Nat.le_refl _
    · exact Nat.le_of_lt (ix_lt_iff hp hx hy (by omega))
theorem gt_ord {ps : List Int} {a : Int} (h0 : 0 ≤ a) (h1 : a < ps.length) : gt (ordM ps) a = (ix (gt ps a) (ssetI ps) : Nat) ∧ gt ps a ∈ ssetI ps := by
  have h2 : a.toNat < ps.length := by omega
  have e : gt ps a = ps[a.toNat] := by simp [gt, List.getElem?_eq_getElem h2]
  refine ⟨?_, ssetI_mem.mpr (by rw [e]; exact List.getElem_mem h2)⟩
  rw [e]
  simp [gt, ordM, List.getElem?_eq_getElem h2]
theorem keeps_ord {s : Say} {ps : List Int} (hs : s.Ok ps.length) : keepsM s (ordM ps) = keepsM s ps := by
  have hp := ssetI_pw ps
  have h1 : (s.ties.any fun p => !(gt (ordM ps) p.1 == gt (ordM ps) p.2)) = s.ties.any fun p => !(gt ps p.1 == gt ps p.2) := by
    have : ∀ (l : List Two), (∀ p ∈ l, In ps.length p) → (l.any fun p => !(gt (ordM ps) p.1 == gt (ordM ps) p.2)) = l.any fun p => !(gt ps p.1 == gt ps p.2) := by
      intro l
      induction l with
      | nil => intro _; rfl
      | cons p l ih =>
        intro h
        obtain ⟨a1, a2, a3, a4⟩ := h p List.mem_cons_self
        obtain ⟨e1, m1⟩ := gt_ord a1 a2
        obtain ⟨e2, m2⟩ := gt_ord a3 a4
        rw [List.any_cons, List.any_cons, ih fun q hq => h q (List.mem_cons_of_mem _ hq), e1, e2]
        congr 2
        by_cases hq : gt ps p.1 = gt ps p.2
        · rw [hq]; simp
        · have : ix (gt ps p.1) (ssetI ps) ≠ ix (gt ps p.2) (ssetI ps) := fun z => hq (ix_inj m1 m2 z)
          rw [beq_eq_false_iff_ne.mpr (fun z => this (by omega)), beq_eq_false_iff_ne.mpr hq]
    exact this _ hs.ties
  unfold keepsM
  rw [h1]
  cases hh : s.head with
  | none => rfl
  | some p =>
    obtain ⟨a1, a2, a3, a4⟩ := hs.head p hh
    obtain ⟨e1, m1⟩ := gt_ord a1 a2
    obtain ⟨e2, m2⟩ := gt_ord a3 a4
    show (_ || decide (gt (ordM ps) p.1 ≤ gt (ordM ps) p.2)) = (_ || decide (gt ps p.1 ≤ gt ps p.2))
    rw [e1, e2]
    congr 1
    have := ix_le_iff hp m1 m2
    rw [decide_eq_decide]
    omega
end Ev
set_option Elab.async false
set_option linter.all false
set_option maxRecDepth 100000
/-! EvJ: k11's law, its parts. -/
namespace Ev
open PySem PySem.Spec PyProof.Rows L2

/-- the law's slots -/
def lan (x2 x3 x4 x5 x6 x7 x8 x9 x10 x11 x12 : Option Val) : Slots := [some (.ref 0), some (.ref 2), x2, x3, x4, x5, x6, x7, x8, x9, x10, x11, x12]
def eWide : E := .bi false .tuple (.cons (.lc false (.call 11 (.cons (.loc 1) (.cons (.loc 3) (.cons (.con (.int 6)) .nil)))) [7] (.name 7) (.rng1 (.bin false .fdiv (.loc 2) (.con (.int 3)))) .none) .nil)
theorem wide_ok {k : Nat} {lap n : Int} {x4 x5 x6 x7 x8 x9 x10 x11 x12 : Option Val} {st rest : Sto} (h0 : 0 ≤ lap) (h9 : lap < 9) (hn : 2 ≤ n) (hn2 : n < 1000) (h : Gr st rest) :
    Ok (evE ⟨calls gdefs gglo (k + 3), gglo⟩ eWide (lan (some (iv lap)) (some (iv n)) x4 x5 x6 x7 x8 x9 x10 x11 x12) st) fun v st' => Gr st' rest ∧ ∃ ss : List Say, v = .d (.tuple (ss.map encS)) ∧ (∀ s ∈ ss, Gd n.toNat s) ∧ ss.length ≤ 2 := by
  have hd : (0 : Int) < 3 := by decide
  have hd2 : (3 : Int) < 1073741824 := by decide
  have e0 : evE ⟨calls gdefs gglo (k + 3), gglo⟩ (.bin false .fdiv (.loc 2) (.con (.int 3))) (lan (some (iv lap)) (some (iv n)) x4 x5 x6 x7 x8 x9 x10 x11 x12) st = .ok (.d (.int (lap / 3))) st := ev_bin (x := iv lap) (y := iv 3) rfl rfl (bin_fdiv hd hd2)
  have ei := ev_rng1 e0 (by omega) (by omega)
  have hl : (rangeI 0 (lap / 3).toNat).length = (lap / 3).toNat := rangeI_len _ _
  have em := fun step => mapS_ok (f := lcF ⟨calls gdefs gglo (k + 3), gglo⟩ (.call 11 (.cons (.loc 1) (.cons (.loc 3) (.cons (.con (.int 6)) .nil)))) [7] (.name 7) .none (lan (some (iv lap)) (some (iv n)) x4 x5 x6 x7 x8 x9 x10 x11 x12))
    (fun xs acc st => Gr st rest ∧ ∃ ss : List Say, acc = (ss.map encS).map Val.d ∧ ss.length + xs.length ≤ 2 ∧ ∀ s ∈ ss, Gd n.toNat s) step (rangeI 0 (lap / 3).toNat) [] st ⟨h, [], rfl, by rw [hl]; simp; omega, fun p hp => by cases hp⟩
  obtain ⟨ys, st2, e3, g2, ss, ea, hpl, hps⟩ := em fun x xs acc st2 ⟨g2, ss, ea, hpl, hps⟩ => by
    obtain ⟨v, st3, e3, g3, s, rfl, hs, ht⟩ := say_ok (k := k) (n := n) (most := 6) hn hn2 (by omega) (by omega) g2
    refine ⟨[.d (encS s)], st3, lcF_one (en1 := lan (some (iv lap)) (some (iv n)) x4 x5 x6 (some (.d x)) x8 x9 x10 x11 x12) rfl (ev_call (vs := [.ref 2, iv n, iv 6]) rfl e3), g3, ss ++ [s], by rw [ea]; simp, by rw [List.length_append]; simp only [List.length_cons] at hpl; simp; omega, fun p hp => ?_⟩
    rcases List.mem_append.mp hp with e | e
    · exact hps p e
    · rw [List.mem_singleton] at e
      subst e
      exact ⟨hs, ht⟩
  rw [List.nil_append] at ea
  subst ea
  have e7 := ev_lc ei e3 (mkL_d (by rw [List.length_map]; simp at hpl; omega))
  have e8 := (ev_bi1 (r := false) (b := .tuple) e7).trans (bi_tuple (by rw [List.length_map]; simp at hpl; omega))
  exact ⟨_, st2, e8, g2, ss, rfl, hps, by simpa using hpl⟩
def eBig : E := .call 7 (.cons (.loc 1) (.cons (.lst false (.cons (.con (.int 0)) (.cons (.con (.int 1)) (.cons (.bin false .pow (.con (.int 10)) (.con (.int 30))) (.cons (.bin false .sub (.con (.int 0)) (.bin false .pow (.con (.int 10)) (.con (.int 30)))) .nil))))) .nil))
def ePl2 : E := .bin false .add (.bi false .tuple (.cons (.bin false .mul (.lst false (.cons eBig .nil)) (.bin false .fdiv (.loc 3) (.con (.int 2)))) .nil)) (.slc false (.loc 5) (.some (.bin false .fdiv (.loc 3) (.con (.int 2)))) .none)
theorem repL_one (x : Val) : ∀ n : Nat, repL [x] n = List.replicate n x
  | 0 => rfl
  | n + 1 => by
    show x :: repL [x] n = _
    rw [repL_one x n]
    rfl
theorem pl2_ok {k : Nat} {n : Int} {ps : List Int} {x2 x4 x6 x7 x8 x9 x10 x11 x12 : Option Val} {st rest : Sto} (hn : 2 ≤ n) (hn2 : n < 100) (hps : ps.length = n.toNat) (hb : Sm (10 ^ 30) ps) (h : Gr st rest) :
    Ok (evE ⟨calls gdefs gglo (k + 3), gglo⟩ ePl2 (lan x2 (some (iv n)) x4 (some (.d (encP ps))) x6 x7 x8 x9 x10 x11 x12) st) fun v st' => Gr st' rest ∧ ∃ qs : List Int, v = .d (encP qs) ∧ qs.length = n.toNat ∧ Sm (10 ^ 30) qs := by
  have hd : (0 : Int) < 2 := by decide
  have hd2 : (2 : Int) < 1073741824 := by decide
  obtain ⟨v, st1, e1, g1, z, hz, rfl⟩ := of_gr (k := k + 1) (d := .list [.int 0, .int 1, .int (10 ^ 30), .int (0 - 10 ^ 30)]) (.inl rfl) (by simp) (by simp) h
  obtain ⟨m, rfl, hm⟩ : ∃ m : Int, z = .int m ∧ m.natAbs ≤ 10 ^ 30 := by
    simp only [List.mem_cons, List.not_mem_nil, or_false] at hz
    rcases hz with e | e | e | e
    · exact ⟨_, e, by decide⟩
    · exact ⟨_, e, by decide⟩
    · exact ⟨_, e, by decide⟩
    · exact ⟨_, e, by decide⟩
  have ef : ∀ st, evE ⟨calls gdefs gglo (k + 3), gglo⟩ (.bin false .fdiv (.loc 3) (.con (.int 2))) (lan x2 (some (iv n)) x4 (some (.d (encP ps))) x6 x7 x8 x9 x10 x11 x12) st = .ok (.d (.int (n / 2))) st := fun st => ev_bin (x := iv n) (y := iv 2) rfl rfl (bin_fdiv hd hd2)
  have eb : evE ⟨calls gdefs gglo (k + 3), gglo⟩ eBig (lan x2 (some (iv n)) x4 (some (.d (encP ps))) x6 x7 x8 x9 x10 x11 x12) st = .ok (.d (.int m)) st1 :=
    ev_call (vs := [.ref 2, .d (.list [.int 0, .int 1, .int (10 ^ 30), .int (0 - 10 ^ 30)])]) rfl e1
  have el := ev_lst (r := false) (ev_cons eb (es := .nil) (xs := []) (st2 := st1) rfl) (v := .d (.list [.int m])) (st2 := st1) rfl
  have em := ev_bin (r := false) (o := .mul) el (ef st1) (v := .d (.list ((List.replicate (n / 2).toNat m).map PyData.int))) (st3 := st1) (by
    show (if 0 ≤ n / 2 ∧ n / 2 ≤ 100000 ∧ ([PyData.int m].map Val.d).length ≤ 100 then mkL false (repL ([PyData.int m].map Val.d) (n / 2).toNat) st1 else .no) = _
    rw [if_pos ⟨by omega, by omega, by simp⟩]
    have : repL ([PyData.int m].map Val.d) (n / 2).toNat = ((List.replicate (n / 2).toNat m).map PyData.int).map Val.d := by
      rw [List.map_map, List.map_replicate]
      exact repL_one _ _
    rw [this, mkL_d (by simp; omega)])
  have et := (ev_bi1 (r := false) (b := .tuple) em).trans (bi_tuple (by simp; omega))
  have es : evE ⟨calls gdefs gglo (k + 3), gglo⟩ (.slc false (.loc 5) (.some (.bin false .fdiv (.loc 3) (.con (.int 2)))) .none) (lan x2 (some (iv n)) x4 (some (.d (encP ps))) x6 x7 x8 x9 x10 x11 x12) st1 = .ok (.d (encP (ps.drop (n / 2).toNat))) st1 := by
    refine ev_slc (x := .d (encP ps)) (st1 := st1) (st3 := st1) (h := none) rfl (evo_some (ef st1)) rfl ?_
    show mkT (cutE ((ps.map PyData.int).map Val.d) (some (n / 2)) none) st1 = _
    rw [cut_drop (by omega), ← List.map_drop, ← List.map_drop, mkT_d (by rw [List.length_map, List.length_drop]; omega)]
    rfl
  refine ⟨.d (encP (List.replicate (n / 2).toNat m ++ ps.drop (n / 2).toNat)), st1, ev_bin et es ?_, g1, _, rfl, ?_, fun p hp => ?_⟩
  · show Ev.R.ofO ((if ((List.replicate (n / 2).toNat m).map PyData.int).length + ((ps.drop (n / 2).toNat).map PyData.int).length ≤ sizeLine then some (PyData.tuple ((List.replicate (n / 2).toNat m).map PyData.int ++ (ps.drop (n / 2).toNat).map PyData.int)) else none).map Val.d) st1 = _
    rw [if_pos (by show _ ≤ 16777216; rw [List.length_map, List.length_map, List.length_replicate, List.length_drop]; omega), ← List.map_append]
    rfl
  · rw [List.length_append, List.length_replicate, List.length_drop]; omega
  · rcases List.mem_append.mp hp with e | e
    · rw [List.eq_of_mem_replicate e]; exact hm
    · exact hb p (List.mem_of_mem_drop e)
end Ev
set_option Elab.async false
set_option linter.all false
set_option maxRecDepth 100000
/-! EvK11: a turn of k11's law. -/
namespace Ev
open PySem PySem.Spec PyProof.Rows L2

theorem sm_pl {b : Nat} {ps : List Int} (hb : b ≤ 10 ^ 59) (h : Sm b ps) : ∀ x ∈ ps, Pl 0 0 (.int x) := fun x hx => Pl.int (log2_small (Nat.lt_of_le_of_lt (Nat.le_trans (h x hx) hb) (by decide)))
theorem pl_encP {b : Nat} {ps : List Int} (hb : b ≤ 10 ^ 59) (h : Sm b ps) : Pl 1 ps.length (encP ps) := by
  have := Pl.tuple (n := 0) (b := 0) (xs := ps.map PyData.int) fun x hx => by
    obtain ⟨y, hy, rfl⟩ := List.mem_map.mp hx
    exact sm_pl hb h y hy
  rw [List.length_map, Nat.mul_one] at this
  exact this
theorem pl_encSw {n : Nat} {s : Say} (h : s.Ok n) (hl : s.ties.length ≤ 21) (hn : n ≤ 1000) : Pl 3 128 (encS s) := by
  have h1 : Pl 2 63 (.tuple (s.ties.map pr)) := (Pl.tuple (n := 1) (b := 2) fun x hx => by
    obtain ⟨t, ht, rfl⟩ := List.mem_map.mp hx
    exact pl_pr (h.ties t ht) hn).mono (Nat.le_refl _) (by rw [List.length_map]; omega)
  have h2 : Pl 2 63 (hd s.head) := by
    cases hh : s.head with
    | none => exact Pl.none
    | some p => exact (pl_pr (h.head p hh) hn).mono (by omega) (by omega)
  refine (Pl.tuple (n := 2) (b := 63) (xs := [.tuple (s.ties.map pr), hd s.head]) fun x hx => ?_).mono (Nat.le_refl _) (by simp)
  rcases List.mem_cons.mp hx with e | e
  · rw [e]; exact h1
  · rw [List.mem_singleton] at e
    rw [e]; exact h2
theorem pl_encS {n : Nat} {s : Say} (h : Gd n s) (hn : n ≤ 1000) : Pl 3 128 (encS s) := pl_encSw h.1 h.2.1 hn
/-- sayings of moments that are there, with few ties -/
def Gw (n : Nat) (s : Say) : Prop := s.Ok n ∧ s.ties.length ≤ 21
theorem pl_encT {N : Nat} {ss : List Say} (h : ∀ s ∈ ss, Gw N s) (hn : N ≤ 1000) (hl : ss.length ≤ 40) : Pl 4 5160 (.tuple (ss.map encS)) := (Pl.tuple (n := 3) (b := 128) fun x hx => by
    obtain ⟨s, hs, rfl⟩ := List.mem_map.mp hx
    exact pl_encSw (h s hs).1 (h s hs).2 hn).mono (Nat.le_refl _) (by rw [List.length_map]; omega)
theorem pl_encL {N : Nat} {ss : List Say} (h : ∀ s ∈ ss, Gw N s) (hn : N ≤ 1000) (hl : ss.length ≤ 40) : Pl 4 5160 (.list (ss.map encS)) := (Pl.list (n := 3) (b := 128) fun x hx => by
    obtain ⟨s, hs, rfl⟩ := List.mem_map.mp hx
    exact pl_encSw (h s hs).1 (h s hs).2 hn).mono (Nat.le_refl _) (by rw [List.length_map]; omega)
theorem pl_encBw {n : Int} {N : Nat} {ss : List Say} (h0 : n.natAbs ≤ 1000) (h : ∀ s ∈ ss, Gw N s) (hn : N ≤ 1000) (hl : ss.length ≤ 40) : Pl 5 10322 (encB n ss) := by
  have h1 := pl_encT h hn hl
  refine (Pl.tuple (n := 4) (b := 5160) (xs := [.int n, .tuple (ss.map encS)]) fun x hx => ?_).mono (Nat.le_refl _) (by simp)
  rcases List.mem_cons.mp hx with e | e
  · rw [e]; exact Pl.int (log2_small (by omega))
  · rw [List.mem_singleton] at e
    rw [e]; exact h1
theorem pl_encB {n : Int} {ss : List Say} (h0 : 0 ≤ n) (h : ∀ s ∈ ss, Gd n.toNat s) (hn : n ≤ 100) (hl : ss.length ≤ 40) : Pl 5 10322 (encB n ss) := pl_encBw (N := n.toNat) (by omega) (fun s hs => ⟨(h s hs).1, (h s hs).2.1⟩) (by omega) hl
theorem pl_two {x y : D} {n b : Nat} (hx : Pl n b x) (hy : Pl n b y) : Pl (n + 1) (2 * (b + 1)) (.list [x, y]) := Pl.list (xs := [x, y]) fun z hz => by
  rcases List.mem_cons.mp hz with e | e
  · rw [e]; exact hx
  · rw [List.mem_singleton] at e
    rw [e]; exact hy
section
variable {k : Nat} {K : Ck} {n : Int} {ps : List Int} {ss : List Say} {x2 x3 x6 x7 x8 x9 x10 x11 x12 : Option Val} {st rest : Sto}
def eKept : E := .bi false .repr (.cons (.lst false (.cons (.loc 4) (.cons (.loc 5) .nil))) .nil)
def kept (n : Int) (ss : List Say) (ps : List Int) : Str := (PyData.list [encB n ss, encP ps]).shown
theorem kept_ok (h0 : 0 ≤ n) (hn : n ≤ 100) (h : ∀ s ∈ ss, Gd n.toNat s) (hl : ss.length ≤ 40) (hp : Sm (10 ^ 30) ps) (hpl : ps.length = n.toNat) :
    evE K eKept (lan x2 x3 (some (.d (encB n ss))) (some (.d (encP ps))) x6 x7 x8 x9 x10 x11 x12) st = .ok (.d (.str (kept n ss ps))) st := by
  have e1 : evE K (.lst false (.cons (.loc 4) (.cons (.loc 5) .nil))) (lan x2 x3 (some (.d (encB n ss))) (some (.d (encP ps))) x6 x7 x8 x9 x10 x11 x12) st = .ok (.d (.list [encB n ss, encP ps])) st := rfl
  refine (ev_bi1 (r := false) (b := .repr) e1).trans (repr_pl (n := 6) (b := 20646) (by rfl) ?_ (by omega) (by omega))
  exact (pl_two (pl_encB h0 h hn hl) ((pl_encP (by decide) hp).mono (by omega) (by omega))).mono (Nat.le_refl _) (by omega)
theorem due_map {f : Val → Sto → R (List Val)} {all : List Say} (hf : ∀ (j : Nat) (s : Say), all[j]? = some s → f (.d (.int j)) st = .ok (if keepsM s ps = true then [] else [iv j]) st) : ∀ (ls : List Say) (j : Nat), (∀ i, ls[i]? = all[j + i]?) → mapS f (rangeI j ls.length) st = .ok ((brk ps j ls).map iv) st
  | [], _, _ => rfl
  | s :: ls, j, h => by
    have h1 := hf j s (by have := h 0; simpa using this.symm)
    have ih := due_map hf ls (j + 1) fun i => by
      have := h (i + 1)
      rw [List.getElem?_cons_succ] at this
      rw [this]
      congr 1
      omega
    show (f (.d (.int j)) st).bind _ = _
    rw [h1, bind_ok]
    have e : rangeI ((j : Int) + 1) ls.length = rangeI (((j + 1 : Nat)) : Int) ls.length := by congr 1
    rw [e, ih, brk_cons]
    cases keepsM s ps <;> rfl
theorem lcF_if {K : Ck} {x c : E} {own : List Nat} {g : Tg} {en en1 : Slots} {v y : Val} {st : Sto} {q : Bool} (h : asg g v (wipeE en own) = some en1) (hc : evE K c en1 st = .ok (.d (.bool q)) st) (h2 : evE K x en1 st = .ok y st) : lcF K x own g (.some c) en v st = .ok (if q = true then [y] else []) st := by
  unfold lcF
  rw [h]
  show ((Ev.R.bind (evE K c en1 st) _).bind _) = _
  rw [hc]
  cases q
  · rfl
  · show Ev.R.bind (evE K x en1 st) _ = _
    rw [h2]
    rfl
def eDue : E := .lc false (.loc 10) [10] (.name 10) (.rng1 (.bi false .len (.cons (.idx (.loc 4) (.con (.int 1))) .nil))) (.some (.not (.call 10 (.cons (.idx (.idx (.loc 4) (.con (.int 1))) (.loc 10)) (.cons (.loc 5) .nil)))))
theorem due_ok (h : ∀ s ∈ ss, Gd n.toNat s) (hl : ss.length ≤ 40) (hpl : ps.length = n.toNat) :
    evE ⟨calls gdefs gglo (k + 1), gglo⟩ eDue (lan x2 x3 (some (.d (encB n ss))) (some (.d (encP ps))) x6 x7 x8 x9 x10 x11 x12) st = .ok (.d (.list ((brk ps 0 ss).map PyData.int))) st := by
  have e1 : evE ⟨calls gdefs gglo (k + 1), gglo⟩ (.idx (.loc 4) (.con (.int 1))) (lan x2 x3 (some (.d (encB n ss))) (some (.d (encP ps))) x6 x7 x8 x9 x10 x11 x12) st = .ok (.d (.tuple (ss.map encS))) st := rfl
  have e2 := (ev_bi1 (r := false) (b := .len) e1).trans (bi_len len_tup)
  have ei := ev_rng1 e2 (by omega) (by rw [List.length_map]; omega)
  rw [Int.toNat_natCast, List.length_map] at ei
  have em := due_map (ps := ps) (st := st) (all := ss) (f := lcF ⟨calls gdefs gglo (k + 1), gglo⟩ (.loc 10) [10] (.name 10) (.some (.not (.call 10 (.cons (.idx (.idx (.loc 4) (.con (.int 1))) (.loc 10)) (.cons (.loc 5) .nil))))) (lan x2 x3 (some (.d (encB n ss))) (some (.d (encP ps))) x6 x7 x8 x9 x10 x11 x12)) (fun j s hj => by
    have hlt := (List.getElem?_eq_some_iff.mp hj).1
    have hs : s.Ok ps.length := by rw [hpl]; exact (h s (List.mem_of_getElem? hj)).1
    have hk := lkeeps_run (k := k) (st := st) hs
    have hx : idxV (.d (.tuple (ss.map encS))) (.d (.int (j : Nat))) st = some (.d (encS s)) := by
      rw [idx_seq (xs := ss.map encS) (.inr rfl) (by omega) (by rw [List.length_map]; omega)]
      have : ss[j] = s := (List.getElem?_eq_some_iff.mp hj).2
      simp [this]
    have e3 : ∀ y, evE ⟨calls gdefs gglo (k + 1), gglo⟩ (.not (.call 10 (.cons (.idx (.idx (.loc 4) (.con (.int 1))) (.loc 10)) (.cons (.loc 5) .nil)))) (lan x2 x3 (some (.d (encB n ss))) (some (.d (encP ps))) x6 x7 x8 x9 (some (iv j)) x11 y) st = .ok (.d (.bool (!keepsM s ps))) st := fun y => by
      have e4 : evE ⟨calls gdefs gglo (k + 1), gglo⟩ (.idx (.idx (.loc 4) (.con (.int 1))) (.loc 10)) (lan x2 x3 (some (.d (encB n ss))) (some (.d (encP ps))) x6 x7 x8 x9 (some (iv j)) x11 y) st = .ok (.d (encS s)) st := by
        show Ev.R.ofO (idxV (.d (.tuple (ss.map encS))) (.d (.int (j : Nat))) st) st = _
        rw [hx]
        rfl
      exact ev_not (ev_call (ev_cons e4 (ev_cons (e := .loc 5) (x := .d (encP ps)) (st1 := st) rfl (es := .nil) (xs := []) (st2 := st) rfl)) hk) truth_bool
    refine (lcF_if (en1 := lan x2 x3 (some (.d (encB n ss))) (some (.d (encP ps))) x6 x7 x8 x9 (some (iv j)) x11 x12) rfl (e3 x12) (y := iv j) rfl).trans ?_
    cases keepsM s ps <;> rfl) ss 0 (fun i => by rw [Nat.zero_add])
  refine ev_lc ei em ?_
  have := mkL_d (ds := (brk ps 0 ss).map PyData.int) (st := st) (by rw [List.length_map]; have := brk_len (ps := ps) 0 ss; omega)
  rw [List.map_map] at this
  exact this
def eTold : E := .lst true (.cons (.call 1 (.cons (.loc 4) (.cons (.loc 5) .nil))) (.cons (.call 2 (.cons (.loc 4) (.cons (.loc 5) .nil))) (.cons (.call 3 (.cons (.loc 4) (.cons (.loc 5) .nil))) (.cons (.call 4 (.cons (.loc 5) .nil)) .nil))))
def toldC (i : Nat) (ps : List Int) (ss : List Say) : Cell := .lst [.ref i, .d (firstD (brk ps 0 ss)), .d (.bool (brk ps 0 ss).isEmpty), .d (encP (ordM ps))]
def toldD (ps : List Int) (ss : List Say) : D := .list [.list ((brk ps 0 ss).map PyData.int), firstD (brk ps 0 ss), .bool (brk ps 0 ss).isEmpty, encP (ordM ps)]
theorem told_ok (h : ∀ s ∈ ss, Gd n.toNat s) (hl : ss.length ≤ 40) (hpl : ps.length = n.toNat) (hn : n ≤ 60) :
    evE ⟨calls gdefs gglo (k + 3), gglo⟩ eTold (lan x2 x3 (some (.d (encB n ss))) (some (.d (encP ps))) x6 x7 x8 x9 x10 x11 x12) st = .ok (.ref (st.length + 1)) (st ++ [Cell.lst ((brk ps 0 ss).map iv), toldC st.length ps ss]) := by
  have hb : Book ps.length ss := ⟨fun s hs => by rw [hpl]; exact (h s hs).1, by omega⟩
  have e1 : evE ⟨calls gdefs gglo (k + 3), gglo⟩ (.call 1 (.cons (.loc 4) (.cons (.loc 5) .nil))) (lan x2 x3 (some (.d (encB n ss))) (some (.d (encP ps))) x6 x7 x8 x9 x10 x11 x12) st = .ok (.ref st.length) (st ++ [.lst ((brk ps 0 ss).map iv)]) := ev_call (vs := [.d (encB n ss), .d (encP ps)]) rfl (broken_run (k := k + 1) hb)
  have e2 : ∀ st, evE ⟨calls gdefs gglo (k + 3), gglo⟩ (.call 2 (.cons (.loc 4) (.cons (.loc 5) .nil))) (lan x2 x3 (some (.d (encB n ss))) (some (.d (encP ps))) x6 x7 x8 x9 x10 x11 x12) st = .ok (.d (firstD (brk ps 0 ss))) st := fun st => ev_call (vs := [.d (encB n ss), .d (encP ps)]) rfl (first_run (k := k + 1) hb)
  have e3 : ∀ st, evE ⟨calls gdefs gglo (k + 3), gglo⟩ (.call 3 (.cons (.loc 4) (.cons (.loc 5) .nil))) (lan x2 x3 (some (.d (encB n ss))) (some (.d (encP ps))) x6 x7 x8 x9 x10 x11 x12) st = .ok (.d (.bool (brk ps 0 ss).isEmpty)) st := fun st => ev_call (vs := [.d (encB n ss), .d (encP ps)]) rfl (kbook_run (k := k) hb)
  have e4 : ∀ st, evE ⟨calls gdefs gglo (k + 3), gglo⟩ (.call 4 (.cons (.loc 5) .nil)) (lan x2 x3 (some (.d (encB n ss))) (some (.d (encP ps))) x6 x7 x8 x9 x10 x11 x12) st = .ok (.d (encP (ordM ps))) st := fun st => ev_call (vs := [.d (encP ps)]) rfl (order_run (k := k + 2) (by omega))
  refine ev_lst (ev_cons e1 (ev_cons (e2 _) (ev_cons (e3 _) (ev_cons (e4 _) (es := .nil) (xs := []) (st2 := st ++ [.lst ((brk ps 0 ss).map iv)]) rfl)))) ?_
  rw [mkL_new (by simp)]
  simp [toldC]
theorem told_dv : dv 8 (.ref (st.length + 1)) (st ++ [Cell.lst ((brk ps 0 ss).map iv), toldC st.length ps ss]) = some (toldD ps ss) := by
  have h1 : (st ++ [Cell.lst ((brk ps 0 ss).map iv), toldC st.length ps ss])[st.length + 1]? = some (toldC st.length ps ss) := by simp
  have h2 : (st ++ [Cell.lst ((brk ps 0 ss).map iv), toldC st.length ps ss])[st.length]? = some (.lst ((brk ps 0 ss).map iv)) := by simp
  have h3 : ∀ m (l : List Int), dvAll (fun v => dv m v (st ++ [Cell.lst ((brk ps 0 ss).map iv), toldC st.length ps ss])) (l.map iv) = some (l.map PyData.int) := fun m l => by
    induction l with
    | nil => rfl
    | cons i l ih =>
      have e : dv m (iv i) (st ++ [Cell.lst ((brk ps 0 ss).map iv), toldC st.length ps ss]) = some (.int i) := by cases m <;> rfl
      simp only [List.map_cons, dvAll, e, ih]
  have h4 : dv 7 (.ref st.length) (st ++ [Cell.lst ((brk ps 0 ss).map iv), toldC st.length ps ss]) = some (.list ((brk ps 0 ss).map PyData.int)) := by
    simp only [dv, h2, h3, Option.map_some]
  have h5 : ∀ d, dv 7 (.d d) (st ++ [Cell.lst ((brk ps 0 ss).map iv), toldC st.length ps ss]) = some d := fun d => rfl
  show (match (st ++ [Cell.lst ((brk ps 0 ss).map iv), toldC st.length ps ss])[st.length + 1]? with
    | some (.lst xs) => (dvAll (fun v => dv 7 v (st ++ [Cell.lst ((brk ps 0 ss).map iv), toldC st.length ps ss])) xs).map PyData.list
    | _ => none) = _
  rw [h1]
  show (dvAll (fun v => dv 7 v (st ++ [Cell.lst ((brk ps 0 ss).map iv), toldC st.length ps ss])) [.ref st.length, .d (firstD (brk ps 0 ss)), .d (.bool (brk ps 0 ss).isEmpty), .d (encP (ordM ps))]).map PyData.list = _
  simp only [dvAll, h4, h5, Option.map_some]
  rfl
theorem brk_ints {x : Int} : ∀ (j : Nat) (ls : List Say), x ∈ brk ps j ls → 0 ≤ x ∧ x < j + ls.length
  | _, [], h => by cases h
  | j, s :: ls, h => by
    rw [brk_cons] at h
    split at h
    · have := brk_ints (j + 1) ls h
      simp only [List.length_cons]
      omega
    · rcases List.mem_cons.mp h with e | e
      · simp only [List.length_cons]; omega
      · have := brk_ints (j + 1) ls e
        simp only [List.length_cons]
        omega
theorem ord_sm : Sm ps.length (ordM ps) := fun x hx => by
  obtain ⟨y, hy, rfl⟩ := List.mem_map.mp hx
  have h1 := ix_lt (ssetI_mem.mpr hy)
  have h2 := ssetI_len ps
  rw [Int.natAbs_natCast]
  omega
theorem pl_brk (hl : ss.length ≤ 40) : Pl 1 40 (.list ((brk ps 0 ss).map PyData.int)) :=
  (Pl.list (n := 0) (b := 0) fun x hx => by
    obtain ⟨y, hy, rfl⟩ := List.mem_map.mp hx
    have := brk_ints 0 ss hy
    exact Pl.int (log2_small (by omega))).mono (Nat.le_refl _) (by rw [List.length_map]; have := brk_len (ps := ps) 0 ss; omega)
theorem pl_told (hl : ss.length ≤ 40) (hp : ps.length ≤ 60) : Pl 2 244 (toldD ps ss) := by
  refine (Pl.list (n := 1) (b := 60) (xs := [.list ((brk ps 0 ss).map PyData.int), firstD (brk ps 0 ss), .bool (brk ps 0 ss).isEmpty, encP (ordM ps)]) fun x hx => ?_).mono (Nat.le_refl _) (by simp)
  simp only [List.mem_cons, List.not_mem_nil, or_false] at hx
  rcases hx with e | e | e | e
  · rw [e]; exact (pl_brk hl).mono (Nat.le_refl _) (by omega)
  · rw [e]
    cases hq : brk ps 0 ss with
    | nil => exact Pl.none
    | cons j r =>
      have := brk_ints (ps := ps) (x := j) 0 ss (by rw [hq]; exact List.mem_cons_self)
      exact Pl.int (log2_small (by omega))
  · rw [e]; exact Pl.bool _
  · rw [e]
    exact (pl_encP (b := ps.length) (Nat.le_trans hp (by decide)) ord_sm).mono (Nat.le_refl _) (by unfold ordM; rw [List.length_map]; exact hp)
def eExp : E := .lst false (.cons (.loc 9) (.cons (.ite (.cmp .ne (.loc 9) (.lst false .nil)) (.idx (.loc 9) (.con (.int 0))) (.con .none)) (.cons (.cmp .eq (.loc 9) (.lst false .nil)) (.cons (.call 9 (.cons (.loc 5) .nil)) .nil))))
theorem exp_ok {x4 : Option Val} (hl : ss.length ≤ 40) (hpl : ps.length ≤ 60) (hp : Sm (10 ^ 30) ps) :
    evE ⟨calls gdefs gglo (k + 1), gglo⟩ eExp (lan x2 x3 x4 (some (.d (encP ps))) x6 x7 x8 (some (.d (.list ((brk ps 0 ss).map PyData.int)))) x10 x11 x12) st = .ok (.d (toldD ps ss)) st := by
  have hb : ∀ x ∈ (brk ps 0 ss).map PyData.int, Pl 0 0 x := fun x hx => by
    obtain ⟨y, hy, rfl⟩ := List.mem_map.mp hx
    have := brk_ints 0 ss hy
    exact Pl.int (log2_small (by omega))
  have e1 : evE ⟨calls gdefs gglo (k + 1), gglo⟩ (.cmp .ne (.loc 9) (.lst false .nil)) (lan x2 x3 x4 (some (.d (encP ps))) x6 x7 x8 (some (.d (.list ((brk ps 0 ss).map PyData.int)))) x10 x11 x12) st = .ok (.d (.bool (!((brk ps 0 ss).map PyData.int).isEmpty))) st := ev_cmp (x := .d (.list ((brk ps 0 ss).map PyData.int))) (y := .d (.list [])) (st1 := st) rfl rfl (cmp_ne_nil hb (by omega))
  have e2 : evE ⟨calls gdefs gglo (k + 1), gglo⟩ (.cmp .eq (.loc 9) (.lst false .nil)) (lan x2 x3 x4 (some (.d (encP ps))) x6 x7 x8 (some (.d (.list ((brk ps 0 ss).map PyData.int)))) x10 x11 x12) st = .ok (.d (.bool ((brk ps 0 ss).map PyData.int).isEmpty)) st := ev_cmp (x := .d (.list ((brk ps 0 ss).map PyData.int))) (y := .d (.list [])) (st1 := st) rfl rfl (cmp_eq_nil hb (by omega))
  have e3 : evE ⟨calls gdefs gglo (k + 1), gglo⟩ (.ite (.cmp .ne (.loc 9) (.lst false .nil)) (.idx (.loc 9) (.con (.int 0))) (.con .none)) (lan x2 x3 x4 (some (.d (encP ps))) x6 x7 x8 (some (.d (.list ((brk ps 0 ss).map PyData.int)))) x10 x11 x12) st = .ok (.d (firstD (brk ps 0 ss))) st := by
    rw [ev_ite e1 truth_bool]
    cases hq : brk ps 0 ss with
    | nil => rfl
    | cons j r =>
      show Ev.R.ofO (idxV (.d (.list (.int j :: r.map PyData.int))) (.d (.int 0)) st) st = _
      rw [idx_seq (xs := .int j :: r.map PyData.int) (.inl rfl) (by omega) (by simp)]
      rfl
  have e4 : evE ⟨calls gdefs gglo (k + 1), gglo⟩ (.call 9 (.cons (.loc 5) .nil)) (lan x2 x3 x4 (some (.d (encP ps))) x6 x7 x8 (some (.d (.list ((brk ps 0 ss).map PyData.int)))) x10 x11 x12) st = .ok (.d (encP (ordM ps))) st := ev_call (vs := [.d (encP ps)]) rfl (lorder_run (k := k) (by omega) (sm_pl (by decide) hp))
  have e5 : ((brk ps 0 ss).map PyData.int).isEmpty = (brk ps 0 ss).isEmpty := by cases brk ps 0 ss <;> rfl
  rw [e5] at e2
  exact ev_lst (ev_cons (e := .loc 9) (x := .d (.list ((brk ps 0 ss).map PyData.int))) (st1 := st) rfl (ev_cons e3 (ev_cons e2 (ev_cons e4 (es := .nil) (xs := []) (st2 := st) rfl)))) rfl
theorem test1 {x4 : Option Val} (hl : ss.length ≤ 40) (hpl : ps.length ≤ 60) (hp : Sm (10 ^ 30) ps) :
    evS ⟨calls gdefs gglo (k + 1), gglo⟩ (.ite (.cmp .ne (.bi false .repr (.cons (.loc 11) .nil)) (.bi false .repr (.cons eExp .nil))) (.cons (.ret (.con (.bool false))) .nil) .nil) (lan x2 x3 x4 (some (.d (encP ps))) x6 x7 x8 (some (.d (.list ((brk ps 0 ss).map PyData.int)))) x10 (some (.ref (st.length + 1))) x12) (st ++ [.lst ((brk ps 0 ss).map iv), toldC st.length ps ss]) =
      .ok (.nx (lan x2 x3 x4 (some (.d (encP ps))) x6 x7 x8 (some (.d (.list ((brk ps 0 ss).map PyData.int)))) x10 (some (.ref (st.length + 1))) x12)) (st ++ [.lst ((brk ps 0 ss).map iv), toldC st.length ps ss]) := by
  have e1 := (ev_bi1 (K := ⟨calls gdefs gglo (k + 1), gglo⟩) (r := false) (b := .repr) (a := .loc 11) (en := lan x2 x3 x4 (some (.d (encP ps))) x6 x7 x8 (some (.d (.list ((brk ps 0 ss).map PyData.int)))) x10 (some (.ref (st.length + 1))) x12) (x := .ref (st.length + 1)) (st := st ++ [.lst ((brk ps 0 ss).map iv), toldC st.length ps ss]) (st1 := st ++ [.lst ((brk ps 0 ss).map iv), toldC st.length ps ss]) rfl).trans (repr_pl told_dv (pl_told hl hpl) (by omega) (by omega))
  have e2 := (ev_bi1 (r := false) (b := .repr) (exp_ok (k := k) (x2 := x2) (x3 := x3) (x4 := x4) (x6 := x6) (x7 := x7) (x8 := x8) (x10 := x10) (x11 := some (.ref (st.length + 1))) (x12 := x12) (st := st ++ [.lst ((brk ps 0 ss).map iv), toldC st.length ps ss]) hl hpl hp)).trans (repr_pl (by rfl) (pl_told hl hpl) (by omega) (by omega))
  have e3 := ev_cmp (o := .ne) e1 e2 cmp_neS
  rw [decide_eq_true rfl] at e3
  exact (ss_ite (ss := .nil) e3 truth_bool).trans rfl
theorem app1 {x4 x5 : Option Val} {c : Cell} (hc : c = toldC st.length ps ss) (hl : ss.length ≤ 40) :
    evS K (.expr (.mt false .append (.idx (.loc 11) (.con (.int 0))) (.cons (.con .none) .nil))) (lan x2 x3 x4 x5 x6 x7 x8 x9 x10 (some (.ref (st.length + 1))) x12) (st ++ [.lst ((brk ps 0 ss).map iv), c]) =
      .ok (.nx (lan x2 x3 x4 x5 x6 x7 x8 x9 x10 (some (.ref (st.length + 1))) x12)) (st ++ [.lst ((brk ps 0 ss).map iv ++ [.d .none]), c]) := by
  subst hc
  have h1 : (st ++ [Cell.lst ((brk ps 0 ss).map iv), toldC st.length ps ss])[st.length + 1]? = some (toldC st.length ps ss) := by simp
  have h2 : (st ++ [Cell.lst ((brk ps 0 ss).map iv), toldC st.length ps ss])[st.length]? = some (Cell.lst ((brk ps 0 ss).map iv)) := by simp
  have e1 : idxV (.ref (st.length + 1)) (.d (.int 0)) (st ++ [Cell.lst ((brk ps 0 ss).map iv), toldC st.length ps ss]) = some (.ref st.length) := by
    have hs : seqOf (.ref (st.length + 1)) (st ++ [Cell.lst ((brk ps 0 ss).map iv), toldC st.length ps ss]) = some [.ref st.length, .d (firstD (brk ps 0 ss)), .d (.bool (brk ps 0 ss).isEmpty), .d (encP (ordM ps))] := by
      show (match (st ++ [Cell.lst ((brk ps 0 ss).map iv), toldC st.length ps ss])[st.length + 1]? with
        | some (.lst xs) => some xs
        | _ => none) = _
      rw [h1]
      rfl
    unfold idxV
    simp only [hs]
    rfl
  have e2 : kindOk .append (.ref st.length) (st ++ [Cell.lst ((brk ps 0 ss).map iv), toldC st.length ps ss]) = true := by
    simp only [kindOk, lsOf, h2]
    rfl
  have hlt : ((brk ps 0 ss).map iv).length < sizeLine := by
    rw [List.length_map]
    have := brk_len (ps := ps) 0 ss
    show _ < 16777216
    omega
  have e3 : mtV .append (.ref st.length) [.d .none] (st ++ [Cell.lst ((brk ps 0 ss).map iv), toldC st.length ps ss]) = .ok (.d .none) (st ++ [.lst ((brk ps 0 ss).map iv ++ [.d .none]), toldC st.length ps ss]) := by
    simp only [mtV, h2]
    rw [if_pos hlt]
    simp
  have e4 : evE K (.idx (.loc 11) (.con (.int 0))) (lan x2 x3 x4 x5 x6 x7 x8 x9 x10 (some (.ref (st.length + 1))) x12) (st ++ [Cell.lst ((brk ps 0 ss).map iv), toldC st.length ps ss]) = .ok (.ref st.length) (st ++ [Cell.lst ((brk ps 0 ss).map iv), toldC st.length ps ss]) := by
    show Ev.R.ofO (idxV _ _ _) _ = _
    rw [e1]
    rfl
  show Ev.R.bind (Ev.R.bind (evE K _ _ _) _) _ = _
  rw [e4, bind_ok]
  show Ev.R.bind (if kindOk .append (.ref st.length) _ = true then mtV .append (.ref st.length) [.d .none] _ else .no) _ = _
  rw [if_pos e2, e3]
  rfl
theorem ev_or {K : Ck} {a b : E} {en : Slots} {st st1 : Sto} {x : Val} {q : Bool} (h : evE K a en st = .ok x st1) (hq : truthV x st1 = some q) : evE K (.or a b) en st = if q then .ok x st1 else evE K b en st1 := by
  have e1 : evE K (.or a b) en st = (evE K a en st).bind fun x st1 => match truthV x st1 with
    | some true => .ok x st1
    | some false => evE K b en st1
    | none => .no := by
    simp only [evE] <;> rfl
  rw [e1, h, bind_ok, hq]
  cases q <;> rfl
theorem brk_dv : dv 8 (.ref st.length) (st ++ [Cell.lst ((brk ps 0 ss).map iv)]) = some (.list ((brk ps 0 ss).map PyData.int)) := by
  have h2 : (st ++ [Cell.lst ((brk ps 0 ss).map iv)])[st.length]? = some (.lst ((brk ps 0 ss).map iv)) := by simp
  have h3 : ∀ m (l : List Int), dvAll (fun v => dv m v (st ++ [Cell.lst ((brk ps 0 ss).map iv)])) (l.map iv) = some (l.map PyData.int) := fun m l => by
    induction l with
    | nil => rfl
    | cons i l ih =>
      have e : dv m (iv i) (st ++ [Cell.lst ((brk ps 0 ss).map iv)]) = some (.int i) := by cases m <;> rfl
      simp only [List.map_cons, dvAll, e, ih]
  simp only [dv, h2, h3, Option.map_some]
theorem test2 (h0 : 0 ≤ n) (hn : n ≤ 60) (h : ∀ s ∈ ss, Gd n.toNat s) (hl : ss.length ≤ 40) (hpl : ps.length = n.toNat) (hp : Sm (10 ^ 30) ps) :
    evS ⟨calls gdefs gglo (k + 2), gglo⟩ (.ite (.or (.cmp .ne (.bi false .repr (.cons (.call 1 (.cons (.loc 4) (.cons (.loc 5) .nil))) .nil)) (.bi false .repr (.cons (.loc 9) .nil))) (.cmp .ne eKept (.loc 8))) (.cons (.ret (.con (.bool false))) .nil) .nil) (lan x2 x3 (some (.d (encB n ss))) (some (.d (encP ps))) x6 x7 (some (.d (.str (kept n ss ps)))) (some (.d (.list ((brk ps 0 ss).map PyData.int)))) x10 x11 x12) st =
      .ok (.nx (lan x2 x3 (some (.d (encB n ss))) (some (.d (encP ps))) x6 x7 (some (.d (.str (kept n ss ps)))) (some (.d (.list ((brk ps 0 ss).map PyData.int)))) x10 x11 x12)) (st ++ [.lst ((brk ps 0 ss).map iv)]) := by
  have hb : Book ps.length ss := ⟨fun s hs => by rw [hpl]; exact (h s hs).1, by omega⟩
  have e1 : evE ⟨calls gdefs gglo (k + 2), gglo⟩ (.call 1 (.cons (.loc 4) (.cons (.loc 5) .nil))) (lan x2 x3 (some (.d (encB n ss))) (some (.d (encP ps))) x6 x7 (some (.d (.str (kept n ss ps)))) (some (.d (.list ((brk ps 0 ss).map PyData.int)))) x10 x11 x12) st = .ok (.ref st.length) (st ++ [.lst ((brk ps 0 ss).map iv)]) := ev_call (vs := [.d (encB n ss), .d (encP ps)]) rfl (broken_run (k := k) hb)
  have e2 := (ev_bi1 (r := false) (b := .repr) e1).trans (repr_pl brk_dv (pl_brk hl) (by omega) (by omega))
  have e3 := (ev_bi1 (K := ⟨calls gdefs gglo (k + 2), gglo⟩) (r := false) (b := .repr) (a := .loc 9) (en := lan x2 x3 (some (.d (encB n ss))) (some (.d (encP ps))) x6 x7 (some (.d (.str (kept n ss ps)))) (some (.d (.list ((brk ps 0 ss).map PyData.int)))) x10 x11 x12) (x := .d (.list ((brk ps 0 ss).map PyData.int))) (st := st ++ [.lst ((brk ps 0 ss).map iv)]) (st1 := st ++ [.lst ((brk ps 0 ss).map iv)]) rfl).trans (repr_pl (by rfl) (pl_brk hl) (by omega) (by omega))
  have e4 := ev_cmp (o := .ne) e2 e3 cmp_neS
  rw [decide_eq_true rfl] at e4
  have e5 := kept_ok (K := ⟨calls gdefs gglo (k + 2), gglo⟩) (x2 := x2) (x3 := x3) (x6 := x6) (x7 := x7) (x8 := some (.d (.str (kept n ss ps)))) (x9 := some (.d (.list ((brk ps 0 ss).map PyData.int)))) (x10 := x10) (x11 := x11) (x12 := x12) (st := st ++ [.lst ((brk ps 0 ss).map iv)]) h0 (by omega) h hl hp hpl
  have e6 := ev_cmp (o := .ne) (b := .loc 8) (y := .d (.str (kept n ss ps))) (st2 := st ++ [.lst ((brk ps 0 ss).map iv)]) e5 rfl cmp_neS
  rw [decide_eq_true rfl] at e6
  have e7 := (ev_or (b := .cmp .ne eKept (.loc 8)) e4 truth_bool).trans e6
  exact (ss_ite (ss := .nil) e7 truth_bool).trans rfl
def lBody : Ss := (.cons (.ite (.cmp .ne (.bi false .repr (.cons (.call 0 (.cons (.loc 12) (.cons (.loc 5) .nil))) .nil)) (.bi false .repr (.cons (.call 10 (.cons (.loc 12) (.cons (.loc 5) .nil))) .nil))) (.cons (.ret (.con (.bool false))) .nil) .nil) (.cons (.ite (.cmp .ne (.call 0 (.cons (.loc 12) (.cons (.call 9 (.cons (.loc 5) .nil)) .nil))) (.call 0 (.cons (.loc 12) (.cons (.loc 5) .nil)))) (.cons (.ret (.con (.bool false))) .nil) .nil) .nil))
theorem ord_len : (ordM ps).length = ps.length := by unfold ordM; rw [List.length_map]
theorem lBody_ok {s : Say} {x4 : Option Val} (hs : s.Ok ps.length) (hl : ps.length ≤ 60) (hp : Sm (10 ^ 30) ps) :
    evSs ⟨calls gdefs gglo (k + 1), gglo⟩ lBody (lan x2 x3 x4 (some (.d (encP ps))) x6 x7 x8 x9 x10 x11 (some (.d (encS s)))) st = .ok (.nx (lan x2 x3 x4 (some (.d (encP ps))) x6 x7 x8 x9 x10 x11 (some (.d (encS s))))) st := by
  have e1 : evE ⟨calls gdefs gglo (k + 1), gglo⟩ (.call 0 (.cons (.loc 12) (.cons (.loc 5) .nil))) (lan x2 x3 x4 (some (.d (encP ps))) x6 x7 x8 x9 x10 x11 (some (.d (encS s)))) st = .ok (.d (.bool (keepsM s ps))) st := ev_call (vs := [.d (encS s), .d (encP ps)]) rfl (keeps_run hs)
  have e2 : evE ⟨calls gdefs gglo (k + 1), gglo⟩ (.call 10 (.cons (.loc 12) (.cons (.loc 5) .nil))) (lan x2 x3 x4 (some (.d (encP ps))) x6 x7 x8 x9 x10 x11 (some (.d (encS s)))) st = .ok (.d (.bool (keepsM s ps))) st := ev_call (vs := [.d (encS s), .d (encP ps)]) rfl (lkeeps_run hs)
  have e3 := (ev_bi1 (r := false) (b := .repr) e1).trans (repr_pl (n := 0) (b := 0) (by rfl) (Pl.bool _) (by omega) (by omega))
  have e4 := (ev_bi1 (r := false) (b := .repr) e2).trans (repr_pl (n := 0) (b := 0) (by rfl) (Pl.bool _) (by omega) (by omega))
  have e5 := ev_cmp (o := .ne) e3 e4 cmp_neS
  rw [decide_eq_true rfl] at e5
  have e6 : evE ⟨calls gdefs gglo (k + 1), gglo⟩ (.call 9 (.cons (.loc 5) .nil)) (lan x2 x3 x4 (some (.d (encP ps))) x6 x7 x8 x9 x10 x11 (some (.d (encS s)))) st = .ok (.d (encP (ordM ps))) st := ev_call (vs := [.d (encP ps)]) rfl (lorder_run (by omega) (sm_pl (by decide) hp))
  have e7 : evE ⟨calls gdefs gglo (k + 1), gglo⟩ (.call 0 (.cons (.loc 12) (.cons (.call 9 (.cons (.loc 5) .nil)) .nil))) (lan x2 x3 x4 (some (.d (encP ps))) x6 x7 x8 x9 x10 x11 (some (.d (encS s)))) st = .ok (.d (.bool (keepsM s ps))) st := by
    have := keeps_run (k := k) (st := st) (s := s) (ps := ordM ps) (by rw [ord_len]; exact hs)
    rw [keeps_ord hs] at this
    exact ev_call (ev_cons (e := .loc 12) (x := .d (encS s)) (st1 := st) rfl (ev_cons e6 (es := .nil) (xs := []) (st2 := st) rfl)) this
  have e8 := ev_cmp (o := .ne) e7 e1 cmp_neB
  rw [show (keepsM s ps == keepsM s ps) = true by cases keepsM s ps <;> rfl] at e8
  exact (ss_nx ((ss_ite (ss := .nil) e5 truth_bool).trans rfl)).trans ((ss_nx ((ss_ite (ss := .nil) e8 truth_bool).trans rfl)).trans rfl)
theorem lloop_ok (h : ∀ s ∈ ss, Gd n.toNat s) (hpl : ps.length = n.toNat) (hn : n ≤ 60) (hp : Sm (10 ^ 30) ps) :
    Ok (evS ⟨calls gdefs gglo (k + 1), gglo⟩ (.loop (.name 12) (.ex (.idx (.loc 4) (.con (.int 1)))) lBody) (lan x2 x3 (some (.d (encB n ss))) (some (.d (encP ps))) x6 x7 x8 x9 x10 x11 x12) st) fun fl st' => st' = st ∧ ∃ y, fl = .nx (lan x2 x3 (some (.d (encB n ss))) (some (.d (encP ps))) x6 x7 x8 x9 x10 x11 y) := by
  have e1 : evS ⟨calls gdefs gglo (k + 1), gglo⟩ (.loop (.name 12) (.ex (.idx (.loc 4) (.con (.int 1)))) lBody) (lan x2 x3 (some (.d (encB n ss))) (some (.d (encP ps))) x6 x7 x8 x9 x10 x11 x12) st = forS (fun v en1 st2 => match asg (.name 12) v en1 with
      | some en2 => evSs ⟨calls gdefs gglo (k + 1), gglo⟩ lBody en2 st2
      | none => .no) (ss.map encS) (lan x2 x3 (some (.d (encB n ss))) (some (.d (encP ps))) x6 x7 x8 x9 x10 x11 x12) st := rfl
  rw [e1]
  refine forS_ok (fun xs en st' => (∀ x ∈ xs, ∃ s, x = encS s ∧ Gd n.toNat s) ∧ st' = st ∧ ∃ y, en = lan x2 x3 (some (.d (encB n ss))) (some (.d (encP ps))) x6 x7 x8 x9 x10 x11 y) _ (fun x xs en st' ⟨hx, e, y, e2⟩ => ?_) (fun en st' ⟨_, e, y, e2⟩ => ⟨e, y, by rw [e2]⟩) _ _ _ ⟨fun x hx => ?_, rfl, x12, rfl⟩
  · subst e e2
    obtain ⟨s, rfl, hs⟩ := hx x List.mem_cons_self
    exact ⟨_, _, lBody_ok (x4 := some (.d (encB n ss))) (by rw [hpl]; exact hs.1) (by omega) hp, .inl ⟨_, .inl rfl, fun z hz => hx z (List.mem_cons_of_mem _ hz), rfl, _, rfl⟩⟩
  · obtain ⟨s, hs, rfl⟩ := List.mem_map.mp hx
    exact ⟨s, rfl, h s hs⟩
end
end Ev
set_option Elab.async false
set_option linter.all false
set_option maxRecDepth 100000
/-! EvW2: more rules: stores, dicts, isinstance, a constant's index; truth values compared. -/
namespace Ev
open PySem PySem.Spec PyProof.Rows L2
section
variable {K : Ck} {en : Slots} {st : Sto}
theorem w_sub {o i e : E} {ss : Ss} {Q : Fl → Sto → Prop} (h : Ok (evE K e en st) fun v st1 => Ok (evE K o en st1) fun x st2 => Ok (evE K i en st2) fun y st3 => ∃ st4, subV x y v st3 = some st4 ∧ Ok (evSs K ss en st4) Q) : Ok (evSs K (.cons (.sub o i e) ss) en st) Q := by
  refine w_ss ?_
  have e1 : evS K (.sub o i e) en st = (evE K e en st).bind fun v st1 => (evE K o en st1).bind fun x st2 => (evE K i en st2).bind fun y st3 => match subV x y v st3 with
    | some st4 => .ok (.nx en) st4
    | none => .no := by simp only [evS] <;> rfl
  rw [e1]
  refine ok_no (h.mono fun v st1 h => ok_no (h.mono fun x st2 h => ok_no (h.mono fun y st3 h => ?_)))
  obtain ⟨st4, e2, h⟩ := h
  rw [e2]
  exact .ok h
variable {Q : Val → Sto → Prop}
theorem w_dct0 (h : Q (.ref st.length) (st ++ [.dK []])) : Ok (evE K (.dct [] .nil) en st) Q := by
  have e1 : evE K (.dct [] .nil) en st = .ok (.ref st.length) (st ++ [.dK []]) := by
    simp only [evE, evEs] <;> rfl
  rw [e1]
  exact .ok h
theorem w_isi {a : E} {ts : List Ty} (h : Ok (evE K a en st) fun x st1 => ∃ q, isiV ts x st1 = some q ∧ Q (.d (.bool q)) st1) : Ok (evE K (.isi a ts) en st) Q := by
  have e1 : evE K (.isi a ts) en st = (evE K a en st).bind fun x st1 => .ofO ((isiV ts x st1).map fun k => .d (.bool k)) st1 := by simp only [evE] <;> rfl
  rw [e1]
  refine ok_no (h.mono fun x st1 h => ?_)
  obtain ⟨q, e2, h⟩ := h
  rw [e2]
  exact .ok h
theorem w_cmp2 {o p : Cop} {a b c : E} (h : Ok (evE K a en st) fun x st1 => Ok (evE K b en st1) fun y st2 => ∃ q, cmpV o x y st2 = some q ∧ (q = true → Ok (evE K c en st2) fun z st3 => ∃ r, cmpV p y z st3 = some r ∧ Q (.d (.bool r)) st3) ∧ (q = false → Q (.d (.bool false)) st2)) : Ok (evE K (.cmp2 o p a b c) en st) Q := by
  have e1 : evE K (.cmp2 o p a b c) en st = (evE K a en st).bind fun x st1 => (evE K b en st1).bind fun y st2 => match cmpV o x y st2 with
    | some true => (evE K c en st2).bind fun z st3 => .ofO ((cmpV p y z st3).map fun k => .d (.bool k)) st3
    | some false => .ok (.d (.bool false)) st2
    | none => .no := by simp only [evE] <;> rfl
  rw [e1]
  refine ok_no (h.mono fun x st1 h => ok_no (h.mono fun y st2 h => ?_))
  obtain ⟨q, e2, h1, h2⟩ := h
  rw [e2]
  cases q with
  | true =>
    refine ok_no ((h1 rfl).mono fun z st3 h => ?_)
    obtain ⟨r, e3, h⟩ := h
    rw [e3]
    exact .ok h
  | false => exact .ok (h2 rfl)
theorem w_gidx {i : Nat} {a : E} {ds : List D} (hg : K.glo i = some (.tuple ds)) (h : Ok (evE K a en st) fun y st1 => ∃ d j, dv 2 y st1 = some d ∧ shapedB d = true ∧ shapedB (.tuple ds) = true ∧ findD d ds 0 = some j ∧ Q (.d (.int (j : Nat))) st1) : Ok (evE K (.gidx i a) en st) Q := by
  have e1 : evE K (.gidx i a) en st = (evE K a en st).bind fun y st1 => match dv 2 y st1 with
      | some d => if shapedB d && shapedB (.tuple ds) then .ofO ((findD d ds 0).map fun (j : Nat) => Val.d (.int (j : Int))) st1 else .no
      | none => .no := by
    simp only [evE, hg] <;> rfl
  rw [e1]
  refine ok_no (h.mono fun y st1 h => ?_)
  obtain ⟨d, j, e2, h1, h2, e3, h⟩ := h
  rw [e2]
  show Ok (if (shapedB d && shapedB (.tuple ds)) = true then R.ofO ((findD d ds 0).map fun (j : Nat) => Val.d (.int (j : Int))) st1 else R.no) Q
  rw [h1, h2, e3]
  exact .ok h
end
theorem w_callC {c : Nat → List Val → Sto → R Val} {g : Nat → Option D} {en : Slots} {st : Sto} {f : Nat} {es : Es} {Q : Val → Sto → Prop} (h : Ok (evEs ⟨c, g⟩ es en st) fun vs st1 => Ok (c f vs st1) Q) : Ok (evE ⟨c, g⟩ (.call f es) en st) Q := w_call h
theorem w_len {r : Bool} {x : Val} {st : Sto} {Q : Val → Sto → Prop} (h : ∃ n : Nat, lenOf x st = some n ∧ Q (.d (.int (n : Nat))) st) : Ok (biV r .len [x] st) Q := by
  obtain ⟨n, e, h⟩ := h
  exact w_eq (bi_len e) h
theorem bi_lenP {r : Bool} {ps : List Int} {st : Sto} : biV r .len [.d (encP ps)] st = .ok (.d (.int ps.length)) st := by
  have := bi_len (r := r) (len_tup (xs := ps.map PyData.int) (st := st))
  rw [List.length_map] at this
  exact this
/-! ### lists of ints compared -/
theorem eqv_ints : ∀ a b : List Int, PyData.eqvAll (a.map PyData.int) (b.map PyData.int) = decide (a = b)
  | [], [] => rfl
  | [], _ :: _ => rfl
  | _ :: _, [] => rfl
  | x :: a, y :: b => by
    rw [List.map_cons, List.map_cons, PyData.eqvAll, eqv_ints a b]
    show (x == y && decide (a = b)) = _
    rw [Bool.eq_iff_iff, Bool.and_eq_true, beq_iff_eq, decide_eq_true_iff, decide_eq_true_iff, List.cons.injEq]
theorem cmp_eqP {a b : List Int} {st : Sto} (ha : ∀ x ∈ a, Pl 0 0 (.int x)) (hb : ∀ x ∈ b, Pl 0 0 (.int x)) : cmpV .eq (.d (encP a)) (.d (encP b)) st = some (decide (a = b)) := by
  have sh : ∀ l : List Int, (∀ x ∈ l, Pl 0 0 (.int x)) → shapedB (encP l) = true := fun l h => (Pl.tuple (n := 0) (b := 0) fun x hx => by
    obtain ⟨i, hi, rfl⟩ := List.mem_map.mp hx
    exact h i hi).shaped (by omega)
  have ee : PyData.eqv (encP a) (encP b) = decide (a = b) := by
    show PyData.eqv (.tuple (a.map PyData.int)) (.tuple (b.map PyData.int)) = _
    rw [PyData.eqv, eqv_ints]
  show (if (shapedB (encP a) && shapedB (encP b)) = true then some (PyData.eqv (encP a) (encP b)) else none) = _
  rw [sh a ha, sh b hb, ee]
  rfl
theorem cmp_neP {a b : List Int} {st : Sto} (ha : ∀ x ∈ a, Pl 0 0 (.int x)) (hb : ∀ x ∈ b, Pl 0 0 (.int x)) : cmpV .ne (.d (encP a)) (.d (encP b)) st = some (!decide (a = b)) := by
  have sh : ∀ l : List Int, (∀ x ∈ l, Pl 0 0 (.int x)) → shapedB (encP l) = true := fun l h => (Pl.tuple (n := 0) (b := 0) fun x hx => by
    obtain ⟨i, hi, rfl⟩ := List.mem_map.mp hx
    exact h i hi).shaped (by omega)
  have ee : PyData.eqv (encP a) (encP b) = decide (a = b) := by
    show PyData.eqv (.tuple (a.map PyData.int)) (.tuple (b.map PyData.int)) = _
    rw [PyData.eqv, eqv_ints]
  show (if (shapedB (encP a) && shapedB (encP b)) = true then some (!PyData.eqv (encP a) (encP b)) else none) = _
  rw [sh a ha, sh b hb, ee]
  rfl
/-! ### pure defs answer alike over any store -/
theorem pure_any {defs : Nat → Option Def} {glo : Nat → Option D} {k f : Nat} {d : Def} {ds : List D} {P : D → Prop} (hd : defs f = some d) (h1 : ds.length = d.np) (h2 : d.pure = true) (h : Ok (evSs ⟨calls defs glo k, glo⟩ d.body (startE d.ns (ds.map .d)) []) fun fl _ => ∃ x, fl = .rt (.d x) ∧ P x) :
    ∃ x, P x ∧ ∀ st, calls defs glo (k + 1) f (ds.map .d) st = .ok (.d x) st := by
  obtain ⟨fl, st0, e, x, rfl, hp⟩ := h
  refine ⟨x, hp, fun st => ?_⟩
  rw [calls_run hd]
  exact run_pure (st0 := st0) h1 h2 (by rw [e]; rfl)
end Ev
set_option Elab.async false
set_option linter.all false
set_option maxRecDepth 100000
/-! EvLb: numbers drawn below a great bound. -/
namespace Ev
open PySem PySem.Spec PyProof.Rows L2
theorem bits_30 {i : Int} (h : i.natAbs ≤ 10 ^ 30) : bits 9000 i = true := by
  unfold bits
  refine decide_eq_true (Nat.lt_of_le_of_lt h (Nat.lt_of_lt_of_le (show 10 ^ 30 < 2 ^ 100 by decide) (Nat.pow_le_pow_right (by decide) (by decide))))
theorem bin_fdivB {r : Bool} {i j : Int} {st : Sto} (h : 0 < j) (h2 : bits 9000 j = true) : binV r .fdiv (.d (.int i)) (.d (.int j)) st = .ok (.d (.int (i / j))) st := by
  show R.ofO (((if 0 < j ∧ (j < 1073741824 ∨ bits 9000 j = true) then some (i / j) else none).map PyData.int).map Val.d) st = _
  rw [if_pos ⟨h, .inr h2⟩]
  rfl
theorem pick_okB {k : Nat} {many l m t : Int} {ns : List D} {cs : List Int} {rest : Sto} (hm : many ≤ 10 ^ 30) (hc : cs.length < 100000) : Ok (calls gdefs gglo (k + 1) 6 [.ref 2, .d (.int many)] (SS ns cs l m t rest)) fun v st' => ∃ w cs' l' m' t', v = .d (.int w) ∧ st' = SS ns cs' l' m' t' rest ∧ cs'.length ≤ cs.length ∧ 0 ≤ w ∧ (w < many ∨ (w = 0 ∧ many < 2)) := by
  rw [calls_run gd6, run_imp rfl rfl]
  generalize (⟨calls gdefs gglo k, gglo⟩ : Ck) = K
  show Ok (finish (evSs K b6 (penv many none none) (SS ns cs l m t rest))) _
  have hw := pick_while (K := K) (ns := ns) (m := m) (t := t) (rest := rest) (many := many) (x := none) (y := none) 100000 cs l hc
  obtain ⟨fl, st1, e1, rfl, cs', l', hl, rfl⟩ := hw
  have e2 : evS K (.whl pickC pickB) (penv many none none) (SS ns cs l m t rest) = .ok (.nx (penv many none none)) (SS ns cs' l' m t rest) := e1
  have hM : (0 : Int) < max 1 many := by omega
  have hM2 : bits 9000 (max 1 many) = true := bits_30 (by omega)
  have e3 : ∀ ss, evSs K (.cons (.whl pickC pickB) ss) (penv many none none) (SS ns cs l m t rest) = evSs K ss (penv many none none) (SS ns cs' l' m t rest) := fun ss => by
    simp only [evSs, e2, bind_ok]
  by_cases hb : many < 2 ∨ 1 < l'
  · refine Ok.eq (a := .d (.int (l' % max 1 many))) (st := SS ns cs' (l' / max 1 many) m t rest) ?_ ⟨_, cs', _, m, t, rfl, rfl, hl, Int.emod_nonneg _ (by omega), ?_⟩
    · refine (congrArg finish (e3 _)).trans ?_
      by_cases h1 : many < 2
      · simp [penv, evSs, evS, evE, evEs, ix_left, h1, max1, bin_fdivB hM hM2, bin_mod hM, sub_left, fin_rt]
      · have h2 : 1 < l' := by omega
        simp [penv, evSs, evS, evE, evEs, ix_left, h1, h2, max1, bin_fdivB hM hM2, bin_mod hM, sub_left, fin_rt]
    · have := Int.emod_lt_of_pos l' hM
      by_cases h1 : many < 2
      · right
        refine ⟨?_, h1⟩
        have e : max 1 many = 1 := by omega
        rw [e, Int.emod_one]
      · left
        omega
  · have h1 : ¬ many < 2 := by omega
    have h2 : ¬ 1 < l' := by omega
    have hp : 0 < many := by omega
    have m1 : mulOk (t + 1) 104729 = true := mulOk_r rfl
    have m2 : mulOk (t + 1) 17 = true := mulOk_r rfl
    have hx : ∀ x : Int, mulOk (x % 998244353) (x % 998244353) = true := fun x => mulOk_l (smallI_of (by omega) (by omega))
    have hq1 : (0 : Int) < 998244353 := by decide
    have hq2 : (0 : Int) < 2147483647 := by decide
    have hq3 : (0 : Int) < 16 := by decide
    have hq4 : (16 : Int) < 1073741824 := by decide
    refine Ok.eq (a := .d (.int ((((m + (t + 1) * 104729) % 998244353 * ((m + (t + 1) * 104729) % 998244353) + (t + 1) * 17) % 2147483647 / 16) % many))) (st := SS ns cs' l' (((m + (t + 1) * 104729) % 998244353 * ((m + (t + 1) * 104729) % 998244353) + (t + 1) * 17) % 2147483647) (t + 1) rest) ?_ ⟨_, cs', _, _, _, rfl, rfl, hl, Int.emod_nonneg _ (by omega), .inl (Int.emod_lt_of_pos _ hp)⟩
    refine (congrArg finish (e3 _)).trans ?_
    simp [penv, evSs, evS, evE, evEs, ix_left, ix_turn, ix_mixed, h1, h2, sub_turn, sub_mixed, fin_rt, bin_mul m1, bin_mul m2, bin_mul (hx _), bin_mod hq1, bin_mod hq2, bin_mod hp, bin_fdiv hq3 hq4]
theorem pick_grB {k : Nat} {many : Int} {st rest : Sto} (hm : many ≤ 10 ^ 30) (h : Gr st rest) : Ok (calls gdefs gglo (k + 1) 6 [.ref 2, .d (.int many)] st) fun v st' => Gr st' rest ∧ ∃ w : Int, v = .d (.int w) ∧ 0 ≤ w ∧ (w < many ∨ (w = 0 ∧ many < 2)) := by
  obtain ⟨more, ns, cs, l, m, t, rfl, hc⟩ := h
  exact (pick_okB (k := k) hm (by omega)).mono fun v st' ⟨w, cs', l', m', t', e, e2, hl, h0, h1⟩ => ⟨⟨more, ns, cs', l', m', t', e2, by omega⟩, w, e, h0, h1⟩
end Ev
set_option Elab.async false
set_option linter.all false
set_option maxRecDepth 100000
set_option maxHeartbeats 0
/-! EvX12: placings of one order. -/
namespace Ev
open PySem PySem.Spec PyProof.Rows L2

/-! ### the plain law -/
def agr (a b : List Int) (u v : Int) : Prop := decide (gt a u ≤ gt a v) = decide (gt b u ≤ gt b v)
theorem gt_idx {ps : List Int} {i : Nat} (h : i < ps.length) : gt ps i = ps[i] := by
  unfold gt
  rw [List.getD_eq_getElem?_getD, Int.toNat_natCast, List.getElem?_eq_getElem h]
  rfl
/-- of one order: the same looks at all pairs -/
theorem ord_agr {a b : List Int} (hl : b.length = a.length) (h : ordM a = ordM b) {u v : Int} (h0 : 0 ≤ u) (h1 : u < a.length) (h2 : 0 ≤ v) (h3 : v < a.length) : agr a b u v := by
  have e : ∀ c : List Int, ∀ x y : Int, 0 ≤ x → x < c.length → 0 ≤ y → y < c.length → (gt (ordM c) x ≤ gt (ordM c) y ↔ gt c x ≤ gt c y) := fun c x y hx0 hx1 hy0 hy1 => by
    obtain ⟨e1, m1⟩ := gt_ord (ps := c) hx0 hx1
    obtain ⟨e2, m2⟩ := gt_ord (ps := c) hy0 hy1
    rw [e1, e2, Int.ofNat_le, ix_le_iff (ssetI_pw c) m1 m2]
  unfold agr
  rw [decide_eq_decide, ← e a u v h0 h1 h2 h3, ← e b u v h0 (by omega) h2 (by omega), h]
theorem sset_map {f : Int → Int} {l : List Int} (h : ∀ x ∈ l, ∀ y ∈ l, x < y → f x < f y) : ssetI (l.map f) = (ssetI l).map f := by
  refine pw_ext (ssetI_pw _) ?_ fun y => ?_
  · rw [List.pairwise_map]
    exact List.Pairwise.imp_of_mem (fun {a b} ha hb hab => h a (ssetI_mem.mp ha) b (ssetI_mem.mp hb) hab) (ssetI_pw l)
  · rw [ssetI_mem, List.mem_map, List.mem_map]
    exact ⟨fun ⟨x, hx, e⟩ => ⟨x, ssetI_mem.mpr hx, e⟩, fun ⟨x, hx, e⟩ => ⟨x, ssetI_mem.mp hx, e⟩⟩
theorem ix_map {f : Int → Int} {x : Int} : ∀ {L : List Int}, (∀ y ∈ L, f y = f x → y = x) → ix (f x) (L.map f) = ix x L
  | [], _ => rfl
  | y :: L, h => by
    have ih := ix_map (f := f) (x := x) (L := L) fun z hz => h z (List.mem_cons_of_mem _ hz)
    rw [List.map_cons]
    unfold ix
    by_cases e : y = x
    · simp [e]
    · have e2 : ¬ f y = f x := fun z => e (h y List.mem_cons_self z)
      simp [e, e2, ih]
theorem ord_mono {f : Int → Int} {l : List Int} (h : ∀ x ∈ l, ∀ y ∈ l, x < y → f x < f y) : ordM (l.map f) = ordM l := by
  unfold ordM
  rw [List.map_map, sset_map h]
  refine List.map_congr_left fun x hx => ?_
  show ((ix (f x) ((ssetI l).map f) : Nat) : Int) = _
  rw [ix_map fun y hy e => ?_]
  have hy := ssetI_mem.mp hy
  rcases Int.lt_trichotomy y x with h1 | h1 | h1
  · have := h y hy x hx h1; omega
  · exact h1
  · have := h x hx y hy h1; omega
theorem ix_at {x : Int} : ∀ {L : List Int}, x ∈ L → L[ix x L]? = some x
  | y :: L, h => by
    unfold ix
    by_cases e : y = x
    · simp [e]
    · rcases List.mem_cons.mp h with e2 | e2
      · exact absurd e2.symm e
      · simp [e, ix_at e2]
theorem agr_ord {a b : List Int} (hl : b.length = a.length) (h : ∀ u v : Int, 0 ≤ u → u < a.length → 0 ≤ v → v < a.length → agr a b u v) : ordM a = ordM b := by
  have le : ∀ u v : Nat, u < a.length → v < a.length → (gt a u ≤ gt a v ↔ gt b u ≤ gt b v) := fun u v h1 h2 => decide_eq_decide.mp (h u v (by omega) (by omega) (by omega) (by omega))
  have at_ : ∀ x ∈ a, ix x a < a.length ∧ gt a (ix x a : Nat) = x := fun x hx => by
    obtain ⟨h1, h2⟩ := List.getElem?_eq_some_iff.mp (ix_at hx)
    exact ⟨h1, by rw [gt_idx h1, h2]⟩
  have e : b = a.map fun x => gt b (ix x a : Nat) := by
    refine List.ext_getElem (by rw [List.length_map, hl]) fun i h1 h2 => ?_
    rw [List.getElem_map, ← gt_idx h1]
    have hi : i < a.length := by omega
    obtain ⟨k1, k2⟩ := at_ a[i] (List.getElem_mem hi)
    have k3 : gt a (i : Nat) = a[i] := gt_idx hi
    have := le i (ix a[i] a) hi k1
    have := le (ix a[i] a) i k1 hi
    omega
  rw [e]
  refine (ord_mono fun x hx y hy hxy => ?_).symm
  obtain ⟨k1, k2⟩ := at_ x hx
  obtain ⟨k3, k4⟩ := at_ y hy
  have := le (ix y a) (ix x a) k3 k1
  omega
theorem gt_mem {ns : List Int} {a : Int} (h0 : 0 ≤ a) (h1 : a < ns.length) : gt ns a ∈ ns := by
  have : a.toNat < ns.length := by omega
  unfold gt
  rw [List.getD_eq_getElem?_getD, List.getElem?_eq_getElem this]
  exact List.getElem_mem this
section
variable {st : Sto}
theorem slt_take {xs : List D} {i : Int} {r : Bool} (h : 0 ≤ i) (hl : xs.length ≤ 16777216) : slV r none (some i) (.d (.tuple xs)) st = .ok (.d (.tuple (xs.take i.toNat))) st := by
  show mkT (cutE (xs.map .d) none (some i)) st = _
  rw [cut_take h, ← List.map_take, mkT_d (by rw [List.length_take]; omega)]
theorem slt_drop {xs : List D} {i : Int} {r : Bool} (h : 0 ≤ i) (hl : xs.length ≤ 16777216) : slV r (some i) none (.d (.tuple xs)) st = .ok (.d (.tuple (xs.drop i.toNat))) st := by
  show mkT (cutE (xs.map .d) (some i) none) st = _
  rw [cut_drop h, ← List.map_drop, mkT_d (by rw [List.length_drop]; omega)]
theorem add_tup {xs ys : List D} {r : Bool} (h : xs.length + ys.length ≤ 16777216) : binV r .add (.d (.tuple xs)) (.d (.tuple ys)) st = .ok (.d (.tuple (xs ++ ys))) st := by
  show Ev.R.ofO ((if xs.length + ys.length ≤ sizeLine then some (PyData.tuple (xs ++ ys)) else none).map Val.d) st = _
  rw [if_pos (show xs.length + ys.length ≤ sizeLine from h)]
  rfl
end
/-! ### the functions -/
section
variable {k : Nat} {st : Sto} {a b : List Int}
/-- what parting tells -/
def PartS (a b : List Int) (x : D) : Prop := (x = .none ∧ ∀ u v : Int, 0 ≤ u → u < a.length → 0 ≤ v → v < a.length → agr a b u v) ∨ ∃ u v : Int, x = encS ⟨[], some (u, v)⟩ ∧ 0 ≤ u ∧ u < a.length ∧ 0 ≤ v ∧ v < a.length ∧ ¬ agr a b u v
theorem parting_run (hl : b.length = a.length) (hn : a.length ≤ 1000) : ∃ x, PartS a b x ∧ ∀ st, calls gdefs gglo (k + 1) 60 [.d (encP a), .d (encP b)] st = .ok (.d x) st := by
  refine pure_any (ds := [encP a, encP b]) gd60 rfl rfl ?_
  show Ok (evSs _ b60 [some (.d (encP a)), some (.d (encP b)), none, none] []) _
  unfold b60
  refine w_loop (fun zs en st => st = [] ∧ ∃ (j c : Nat) (x y : Option Val), zs = rangeI j c ∧ j + c = a.length ∧ en = [some (.d (encP a)), some (.d (encP b)), x, y] ∧ ∀ u v : Int, 0 ≤ u → u < j → 0 ≤ v → v < a.length → agr a b u v) ?_ (fun z zs en st ⟨e0, j, c, x, y, ez, ej, he, hag⟩ => ?_) (fun en st ⟨e0, j, c, x, y, ez, ej, he, hag⟩ => ?_)
  · repeat (first | (with_reducible refine w_loc ?_; refine ⟨_, rfl, ?_⟩) | (with_reducible refine w_glo ?_; refine ⟨_, rfl, ?_⟩) | with_reducible refine w_con ?_ | with_reducible refine w_set ?_ | with_reducible refine w_ret ?_ | with_reducible refine w_expr ?_ | with_reducible refine w_unp ?_ | with_reducible refine w_par ?_ | with_reducible refine w_ite ?_ | with_reducible refine w_nx ?_ | with_reducible refine w_rt ?_ | with_reducible refine w_nil ?_ | with_reducible refine w_tup ?_ | with_reducible refine w_lst ?_ | with_reducible refine w_bin ?_ | with_reducible refine w_neg ?_ | with_reducible refine w_not ?_ | with_reducible refine w_cmp ?_ | with_reducible refine w_and ?_ | with_reducible refine w_or ?_ | with_reducible refine w_iff ?_ | with_reducible refine w_isN ?_ | with_reducible refine w_isNN ?_ | with_reducible refine w_callC ?_ | with_reducible refine w_call ?_ | with_reducible refine w_bi ?_ | with_reducible refine w_mt ?_ | with_reducible refine w_idx ?_ | with_reducible refine w_slc ?_ | with_reducible refine w_on ?_ | with_reducible refine w_os ?_ | with_reducible refine w_rev ?_ | with_reducible refine w_sset ?_ | with_reducible refine w_lrng ?_ | with_reducible refine w_lc ?_ | with_reducible refine w_enil ?_ | with_reducible refine w_cons ?_ | with_reducible refine w_star ?_ | with_reducible refine w_ex ?_ | with_reducible refine w_rng1 ?_ | with_reducible refine w_rng2 ?_ | with_reducible refine w_enm ?_ | with_reducible refine w_sub ?_ | with_reducible refine w_dct0 ?_ | with_reducible refine w_isi ?_ | with_reducible refine w_cmp2 ?_ | with_reducible refine w_eq bin_add ?_ | with_reducible refine w_eq bi_lenP ?_ | with_reducible refine w_eq (bi_len len_tup) ?_ | with_reducible refine w_eq (bi_len len_lst) ?_ | with_reducible refine w_eq bin_sub ?_ | with_reducible refine w_eq (bin_fdiv (by decide) (by decide)) ?_ | with_reducible refine ⟨_, cmp_neB, ?_⟩ | with_reducible refine ⟨_, cmp_eqB, ?_⟩ | with_reducible refine ⟨_, cmp_neS, ?_⟩ | with_reducible refine ⟨_, cmp_eqS, ?_⟩ | with_reducible refine ⟨_, cmp_eqI, ?_⟩ | with_reducible refine ⟨_, cmp_neI, ?_⟩ | with_reducible refine ⟨_, truth_bool, ?_⟩ | with_reducible refine ⟨_, ix_pr0, ?_⟩ | with_reducible refine ⟨_, ix_pr1, ?_⟩ | with_reducible refine ⟨_, ix_book, ?_⟩ | with_reducible refine ⟨kind_new, ?_⟩ | with_reducible refine ⟨rfl, ?_⟩ | (with_reducible refine ex_id ?_; refine ⟨_, rfl, ?_⟩) | (with_reducible refine w_len ?_; refine ⟨_, rfl, ?_⟩) | (with_reducible refine w_mkT ?_; refine ⟨_, _, rfl, ?_⟩) | (with_reducible refine w_mkL ?_; refine ⟨_, _, rfl, ?_⟩))
    refine ⟨by omega, by omega, ?_⟩
    refine ⟨_, rfl, rfl, 0, a.length, none, none, ?_, by omega, rfl, fun u v h1 h2 => by omega⟩
    rw [Int.toNat_natCast]
    rfl
  · subst e0 he
    match c, ez with
    | c + 1, ez =>
      cases ez
      refine ⟨_, rfl, ?_⟩
      refine w_loop (fun zs en st => st = [] ∧ ∃ (i d : Nat) (y : Option Val), zs = rangeI i d ∧ i + d = a.length ∧ en = [some (.d (encP a)), some (.d (encP b)), some (iv j), y] ∧ ∀ v : Int, 0 ≤ v → v < i → agr a b j v) ?_ (fun z zs en st ⟨e0, i, d, y, ez, ei, he, hai⟩ => ?_) (fun en st ⟨e0, i, d, y, ez, ei, he, hai⟩ => ?_)
      · repeat (first | (with_reducible refine w_loc ?_; refine ⟨_, rfl, ?_⟩) | (with_reducible refine w_glo ?_; refine ⟨_, rfl, ?_⟩) | with_reducible refine w_con ?_ | with_reducible refine w_set ?_ | with_reducible refine w_ret ?_ | with_reducible refine w_expr ?_ | with_reducible refine w_unp ?_ | with_reducible refine w_par ?_ | with_reducible refine w_ite ?_ | with_reducible refine w_nx ?_ | with_reducible refine w_rt ?_ | with_reducible refine w_nil ?_ | with_reducible refine w_tup ?_ | with_reducible refine w_lst ?_ | with_reducible refine w_bin ?_ | with_reducible refine w_neg ?_ | with_reducible refine w_not ?_ | with_reducible refine w_cmp ?_ | with_reducible refine w_and ?_ | with_reducible refine w_or ?_ | with_reducible refine w_iff ?_ | with_reducible refine w_isN ?_ | with_reducible refine w_isNN ?_ | with_reducible refine w_callC ?_ | with_reducible refine w_call ?_ | with_reducible refine w_bi ?_ | with_reducible refine w_mt ?_ | with_reducible refine w_idx ?_ | with_reducible refine w_slc ?_ | with_reducible refine w_on ?_ | with_reducible refine w_os ?_ | with_reducible refine w_rev ?_ | with_reducible refine w_sset ?_ | with_reducible refine w_lrng ?_ | with_reducible refine w_lc ?_ | with_reducible refine w_enil ?_ | with_reducible refine w_cons ?_ | with_reducible refine w_star ?_ | with_reducible refine w_ex ?_ | with_reducible refine w_rng1 ?_ | with_reducible refine w_rng2 ?_ | with_reducible refine w_enm ?_ | with_reducible refine w_sub ?_ | with_reducible refine w_dct0 ?_ | with_reducible refine w_isi ?_ | with_reducible refine w_cmp2 ?_ | with_reducible refine w_eq bin_add ?_ | with_reducible refine w_eq bi_lenP ?_ | with_reducible refine w_eq (bi_len len_tup) ?_ | with_reducible refine w_eq (bi_len len_lst) ?_ | with_reducible refine w_eq bin_sub ?_ | with_reducible refine w_eq (bin_fdiv (by decide) (by decide)) ?_ | with_reducible refine ⟨_, cmp_neB, ?_⟩ | with_reducible refine ⟨_, cmp_eqB, ?_⟩ | with_reducible refine ⟨_, cmp_neS, ?_⟩ | with_reducible refine ⟨_, cmp_eqS, ?_⟩ | with_reducible refine ⟨_, cmp_eqI, ?_⟩ | with_reducible refine ⟨_, cmp_neI, ?_⟩ | with_reducible refine ⟨_, truth_bool, ?_⟩ | with_reducible refine ⟨_, ix_pr0, ?_⟩ | with_reducible refine ⟨_, ix_pr1, ?_⟩ | with_reducible refine ⟨_, ix_book, ?_⟩ | with_reducible refine ⟨kind_new, ?_⟩ | with_reducible refine ⟨rfl, ?_⟩ | (with_reducible refine ex_id ?_; refine ⟨_, rfl, ?_⟩) | (with_reducible refine w_len ?_; refine ⟨_, rfl, ?_⟩) | (with_reducible refine w_mkT ?_; refine ⟨_, _, rfl, ?_⟩) | (with_reducible refine w_mkL ?_; refine ⟨_, _, rfl, ?_⟩))
        refine ⟨by omega, by omega, ?_⟩
        refine ⟨_, rfl, rfl, 0, a.length, _, ?_, by omega, rfl, fun v h1 h2 => by omega⟩
        rw [Int.toNat_natCast]
        rfl
      · subst e0 he
        match d, ez with
        | d + 1, ez =>
          cases ez
          refine ⟨_, rfl, ?_⟩
          repeat (first | (with_reducible refine w_loc ?_; refine ⟨_, rfl, ?_⟩) | (with_reducible refine w_glo ?_; refine ⟨_, rfl, ?_⟩) | with_reducible refine w_con ?_ | with_reducible refine w_set ?_ | with_reducible refine w_ret ?_ | with_reducible refine w_expr ?_ | with_reducible refine w_unp ?_ | with_reducible refine w_par ?_ | with_reducible refine w_ite ?_ | with_reducible refine w_nx ?_ | with_reducible refine w_rt ?_ | with_reducible refine w_nil ?_ | with_reducible refine w_tup ?_ | with_reducible refine w_lst ?_ | with_reducible refine w_bin ?_ | with_reducible refine w_neg ?_ | with_reducible refine w_not ?_ | with_reducible refine w_cmp ?_ | with_reducible refine w_and ?_ | with_reducible refine w_or ?_ | with_reducible refine w_iff ?_ | with_reducible refine w_isN ?_ | with_reducible refine w_isNN ?_ | with_reducible refine w_callC ?_ | with_reducible refine w_call ?_ | with_reducible refine w_bi ?_ | with_reducible refine w_mt ?_ | with_reducible refine w_idx ?_ | with_reducible refine w_slc ?_ | with_reducible refine w_on ?_ | with_reducible refine w_os ?_ | with_reducible refine w_rev ?_ | with_reducible refine w_sset ?_ | with_reducible refine w_lrng ?_ | with_reducible refine w_lc ?_ | with_reducible refine w_enil ?_ | with_reducible refine w_cons ?_ | with_reducible refine w_star ?_ | with_reducible refine w_ex ?_ | with_reducible refine w_rng1 ?_ | with_reducible refine w_rng2 ?_ | with_reducible refine w_enm ?_ | with_reducible refine w_sub ?_ | with_reducible refine w_dct0 ?_ | with_reducible refine w_isi ?_ | with_reducible refine w_cmp2 ?_ | with_reducible refine w_eq bin_add ?_ | with_reducible refine w_eq bi_lenP ?_ | with_reducible refine w_eq (bi_len len_tup) ?_ | with_reducible refine w_eq (bi_len len_lst) ?_ | with_reducible refine w_eq bin_sub ?_ | with_reducible refine w_eq (bin_fdiv (by decide) (by decide)) ?_ | with_reducible refine ⟨_, cmp_neB, ?_⟩ | with_reducible refine ⟨_, cmp_eqB, ?_⟩ | with_reducible refine ⟨_, cmp_neS, ?_⟩ | with_reducible refine ⟨_, cmp_eqS, ?_⟩ | with_reducible refine ⟨_, cmp_eqI, ?_⟩ | with_reducible refine ⟨_, cmp_neI, ?_⟩ | with_reducible refine ⟨_, truth_bool, ?_⟩ | with_reducible refine ⟨_, ix_pr0, ?_⟩ | with_reducible refine ⟨_, ix_pr1, ?_⟩ | with_reducible refine ⟨_, ix_book, ?_⟩ | with_reducible refine ⟨kind_new, ?_⟩ | with_reducible refine ⟨rfl, ?_⟩ | (with_reducible refine ex_id ?_; refine ⟨_, rfl, ?_⟩) | (with_reducible refine w_len ?_; refine ⟨_, rfl, ?_⟩) | (with_reducible refine w_mkT ?_; refine ⟨_, _, rfl, ?_⟩) | (with_reducible refine w_mkL ?_; refine ⟨_, _, rfl, ?_⟩))
          refine ⟨_, ix_pl (by omega) (by omega), ?_⟩
          repeat (first | (with_reducible refine w_loc ?_; refine ⟨_, rfl, ?_⟩) | (with_reducible refine w_glo ?_; refine ⟨_, rfl, ?_⟩) | with_reducible refine w_con ?_ | with_reducible refine w_set ?_ | with_reducible refine w_ret ?_ | with_reducible refine w_expr ?_ | with_reducible refine w_unp ?_ | with_reducible refine w_par ?_ | with_reducible refine w_ite ?_ | with_reducible refine w_nx ?_ | with_reducible refine w_rt ?_ | with_reducible refine w_nil ?_ | with_reducible refine w_tup ?_ | with_reducible refine w_lst ?_ | with_reducible refine w_bin ?_ | with_reducible refine w_neg ?_ | with_reducible refine w_not ?_ | with_reducible refine w_cmp ?_ | with_reducible refine w_and ?_ | with_reducible refine w_or ?_ | with_reducible refine w_iff ?_ | with_reducible refine w_isN ?_ | with_reducible refine w_isNN ?_ | with_reducible refine w_callC ?_ | with_reducible refine w_call ?_ | with_reducible refine w_bi ?_ | with_reducible refine w_mt ?_ | with_reducible refine w_idx ?_ | with_reducible refine w_slc ?_ | with_reducible refine w_on ?_ | with_reducible refine w_os ?_ | with_reducible refine w_rev ?_ | with_reducible refine w_sset ?_ | with_reducible refine w_lrng ?_ | with_reducible refine w_lc ?_ | with_reducible refine w_enil ?_ | with_reducible refine w_cons ?_ | with_reducible refine w_star ?_ | with_reducible refine w_ex ?_ | with_reducible refine w_rng1 ?_ | with_reducible refine w_rng2 ?_ | with_reducible refine w_enm ?_ | with_reducible refine w_sub ?_ | with_reducible refine w_dct0 ?_ | with_reducible refine w_isi ?_ | with_reducible refine w_cmp2 ?_ | with_reducible refine w_eq bin_add ?_ | with_reducible refine w_eq bi_lenP ?_ | with_reducible refine w_eq (bi_len len_tup) ?_ | with_reducible refine w_eq (bi_len len_lst) ?_ | with_reducible refine w_eq bin_sub ?_ | with_reducible refine w_eq (bin_fdiv (by decide) (by decide)) ?_ | with_reducible refine ⟨_, cmp_neB, ?_⟩ | with_reducible refine ⟨_, cmp_eqB, ?_⟩ | with_reducible refine ⟨_, cmp_neS, ?_⟩ | with_reducible refine ⟨_, cmp_eqS, ?_⟩ | with_reducible refine ⟨_, cmp_eqI, ?_⟩ | with_reducible refine ⟨_, cmp_neI, ?_⟩ | with_reducible refine ⟨_, truth_bool, ?_⟩ | with_reducible refine ⟨_, ix_pr0, ?_⟩ | with_reducible refine ⟨_, ix_pr1, ?_⟩ | with_reducible refine ⟨_, ix_book, ?_⟩ | with_reducible refine ⟨kind_new, ?_⟩ | with_reducible refine ⟨rfl, ?_⟩ | (with_reducible refine ex_id ?_; refine ⟨_, rfl, ?_⟩) | (with_reducible refine w_len ?_; refine ⟨_, rfl, ?_⟩) | (with_reducible refine w_mkT ?_; refine ⟨_, _, rfl, ?_⟩) | (with_reducible refine w_mkL ?_; refine ⟨_, _, rfl, ?_⟩))
          refine ⟨_, ix_pl (by omega) (by omega), ?_⟩
          repeat (first | (with_reducible refine w_loc ?_; refine ⟨_, rfl, ?_⟩) | (with_reducible refine w_glo ?_; refine ⟨_, rfl, ?_⟩) | with_reducible refine w_con ?_ | with_reducible refine w_set ?_ | with_reducible refine w_ret ?_ | with_reducible refine w_expr ?_ | with_reducible refine w_unp ?_ | with_reducible refine w_par ?_ | with_reducible refine w_ite ?_ | with_reducible refine w_nx ?_ | with_reducible refine w_rt ?_ | with_reducible refine w_nil ?_ | with_reducible refine w_tup ?_ | with_reducible refine w_lst ?_ | with_reducible refine w_bin ?_ | with_reducible refine w_neg ?_ | with_reducible refine w_not ?_ | with_reducible refine w_cmp ?_ | with_reducible refine w_and ?_ | with_reducible refine w_or ?_ | with_reducible refine w_iff ?_ | with_reducible refine w_isN ?_ | with_reducible refine w_isNN ?_ | with_reducible refine w_callC ?_ | with_reducible refine w_call ?_ | with_reducible refine w_bi ?_ | with_reducible refine w_mt ?_ | with_reducible refine w_idx ?_ | with_reducible refine w_slc ?_ | with_reducible refine w_on ?_ | with_reducible refine w_os ?_ | with_reducible refine w_rev ?_ | with_reducible refine w_sset ?_ | with_reducible refine w_lrng ?_ | with_reducible refine w_lc ?_ | with_reducible refine w_enil ?_ | with_reducible refine w_cons ?_ | with_reducible refine w_star ?_ | with_reducible refine w_ex ?_ | with_reducible refine w_rng1 ?_ | with_reducible refine w_rng2 ?_ | with_reducible refine w_enm ?_ | with_reducible refine w_sub ?_ | with_reducible refine w_dct0 ?_ | with_reducible refine w_isi ?_ | with_reducible refine w_cmp2 ?_ | with_reducible refine w_eq bin_add ?_ | with_reducible refine w_eq bi_lenP ?_ | with_reducible refine w_eq (bi_len len_tup) ?_ | with_reducible refine w_eq (bi_len len_lst) ?_ | with_reducible refine w_eq bin_sub ?_ | with_reducible refine w_eq (bin_fdiv (by decide) (by decide)) ?_ | with_reducible refine ⟨_, cmp_neB, ?_⟩ | with_reducible refine ⟨_, cmp_eqB, ?_⟩ | with_reducible refine ⟨_, cmp_neS, ?_⟩ | with_reducible refine ⟨_, cmp_eqS, ?_⟩ | with_reducible refine ⟨_, cmp_eqI, ?_⟩ | with_reducible refine ⟨_, cmp_neI, ?_⟩ | with_reducible refine ⟨_, truth_bool, ?_⟩ | with_reducible refine ⟨_, ix_pr0, ?_⟩ | with_reducible refine ⟨_, ix_pr1, ?_⟩ | with_reducible refine ⟨_, ix_book, ?_⟩ | with_reducible refine ⟨kind_new, ?_⟩ | with_reducible refine ⟨rfl, ?_⟩ | (with_reducible refine ex_id ?_; refine ⟨_, rfl, ?_⟩) | (with_reducible refine w_len ?_; refine ⟨_, rfl, ?_⟩) | (with_reducible refine w_mkT ?_; refine ⟨_, _, rfl, ?_⟩) | (with_reducible refine w_mkL ?_; refine ⟨_, _, rfl, ?_⟩))
          refine ⟨_, ix_pl (by omega) (by omega), ?_⟩
          repeat (first | (with_reducible refine w_loc ?_; refine ⟨_, rfl, ?_⟩) | (with_reducible refine w_glo ?_; refine ⟨_, rfl, ?_⟩) | with_reducible refine w_con ?_ | with_reducible refine w_set ?_ | with_reducible refine w_ret ?_ | with_reducible refine w_expr ?_ | with_reducible refine w_unp ?_ | with_reducible refine w_par ?_ | with_reducible refine w_ite ?_ | with_reducible refine w_nx ?_ | with_reducible refine w_rt ?_ | with_reducible refine w_nil ?_ | with_reducible refine w_tup ?_ | with_reducible refine w_lst ?_ | with_reducible refine w_bin ?_ | with_reducible refine w_neg ?_ | with_reducible refine w_not ?_ | with_reducible refine w_cmp ?_ | with_reducible refine w_and ?_ | with_reducible refine w_or ?_ | with_reducible refine w_iff ?_ | with_reducible refine w_isN ?_ | with_reducible refine w_isNN ?_ | with_reducible refine w_callC ?_ | with_reducible refine w_call ?_ | with_reducible refine w_bi ?_ | with_reducible refine w_mt ?_ | with_reducible refine w_idx ?_ | with_reducible refine w_slc ?_ | with_reducible refine w_on ?_ | with_reducible refine w_os ?_ | with_reducible refine w_rev ?_ | with_reducible refine w_sset ?_ | with_reducible refine w_lrng ?_ | with_reducible refine w_lc ?_ | with_reducible refine w_enil ?_ | with_reducible refine w_cons ?_ | with_reducible refine w_star ?_ | with_reducible refine w_ex ?_ | with_reducible refine w_rng1 ?_ | with_reducible refine w_rng2 ?_ | with_reducible refine w_enm ?_ | with_reducible refine w_sub ?_ | with_reducible refine w_dct0 ?_ | with_reducible refine w_isi ?_ | with_reducible refine w_cmp2 ?_ | with_reducible refine w_eq bin_add ?_ | with_reducible refine w_eq bi_lenP ?_ | with_reducible refine w_eq (bi_len len_tup) ?_ | with_reducible refine w_eq (bi_len len_lst) ?_ | with_reducible refine w_eq bin_sub ?_ | with_reducible refine w_eq (bin_fdiv (by decide) (by decide)) ?_ | with_reducible refine ⟨_, cmp_neB, ?_⟩ | with_reducible refine ⟨_, cmp_eqB, ?_⟩ | with_reducible refine ⟨_, cmp_neS, ?_⟩ | with_reducible refine ⟨_, cmp_eqS, ?_⟩ | with_reducible refine ⟨_, cmp_eqI, ?_⟩ | with_reducible refine ⟨_, cmp_neI, ?_⟩ | with_reducible refine ⟨_, truth_bool, ?_⟩ | with_reducible refine ⟨_, ix_pr0, ?_⟩ | with_reducible refine ⟨_, ix_pr1, ?_⟩ | with_reducible refine ⟨_, ix_book, ?_⟩ | with_reducible refine ⟨kind_new, ?_⟩ | with_reducible refine ⟨rfl, ?_⟩ | (with_reducible refine ex_id ?_; refine ⟨_, rfl, ?_⟩) | (with_reducible refine w_len ?_; refine ⟨_, rfl, ?_⟩) | (with_reducible refine w_mkT ?_; refine ⟨_, _, rfl, ?_⟩) | (with_reducible refine w_mkL ?_; refine ⟨_, _, rfl, ?_⟩))
          refine ⟨_, ix_pl (by omega) (by omega), ?_⟩
          repeat (first | (with_reducible refine w_loc ?_; refine ⟨_, rfl, ?_⟩) | (with_reducible refine w_glo ?_; refine ⟨_, rfl, ?_⟩) | with_reducible refine w_con ?_ | with_reducible refine w_set ?_ | with_reducible refine w_ret ?_ | with_reducible refine w_expr ?_ | with_reducible refine w_unp ?_ | with_reducible refine w_par ?_ | with_reducible refine w_ite ?_ | with_reducible refine w_nx ?_ | with_reducible refine w_rt ?_ | with_reducible refine w_nil ?_ | with_reducible refine w_tup ?_ | with_reducible refine w_lst ?_ | with_reducible refine w_bin ?_ | with_reducible refine w_neg ?_ | with_reducible refine w_not ?_ | with_reducible refine w_cmp ?_ | with_reducible refine w_and ?_ | with_reducible refine w_or ?_ | with_reducible refine w_iff ?_ | with_reducible refine w_isN ?_ | with_reducible refine w_isNN ?_ | with_reducible refine w_callC ?_ | with_reducible refine w_call ?_ | with_reducible refine w_bi ?_ | with_reducible refine w_mt ?_ | with_reducible refine w_idx ?_ | with_reducible refine w_slc ?_ | with_reducible refine w_on ?_ | with_reducible refine w_os ?_ | with_reducible refine w_rev ?_ | with_reducible refine w_sset ?_ | with_reducible refine w_lrng ?_ | with_reducible refine w_lc ?_ | with_reducible refine w_enil ?_ | with_reducible refine w_cons ?_ | with_reducible refine w_star ?_ | with_reducible refine w_ex ?_ | with_reducible refine w_rng1 ?_ | with_reducible refine w_rng2 ?_ | with_reducible refine w_enm ?_ | with_reducible refine w_sub ?_ | with_reducible refine w_dct0 ?_ | with_reducible refine w_isi ?_ | with_reducible refine w_cmp2 ?_ | with_reducible refine w_eq bin_add ?_ | with_reducible refine w_eq bi_lenP ?_ | with_reducible refine w_eq (bi_len len_tup) ?_ | with_reducible refine w_eq (bi_len len_lst) ?_ | with_reducible refine w_eq bin_sub ?_ | with_reducible refine w_eq (bin_fdiv (by decide) (by decide)) ?_ | with_reducible refine ⟨_, cmp_neB, ?_⟩ | with_reducible refine ⟨_, cmp_eqB, ?_⟩ | with_reducible refine ⟨_, cmp_neS, ?_⟩ | with_reducible refine ⟨_, cmp_eqS, ?_⟩ | with_reducible refine ⟨_, cmp_eqI, ?_⟩ | with_reducible refine ⟨_, cmp_neI, ?_⟩ | with_reducible refine ⟨_, truth_bool, ?_⟩ | with_reducible refine ⟨_, ix_pr0, ?_⟩ | with_reducible refine ⟨_, ix_pr1, ?_⟩ | with_reducible refine ⟨_, ix_book, ?_⟩ | with_reducible refine ⟨kind_new, ?_⟩ | with_reducible refine ⟨rfl, ?_⟩ | (with_reducible refine ex_id ?_; refine ⟨_, rfl, ?_⟩) | (with_reducible refine w_len ?_; refine ⟨_, rfl, ?_⟩) | (with_reducible refine w_mkT ?_; refine ⟨_, _, rfl, ?_⟩) | (with_reducible refine w_mkL ?_; refine ⟨_, _, rfl, ?_⟩))
          refine ⟨fun hq => ?_, fun hq => ?_⟩
          · repeat (first | (with_reducible refine w_loc ?_; refine ⟨_, rfl, ?_⟩) | (with_reducible refine w_glo ?_; refine ⟨_, rfl, ?_⟩) | with_reducible refine w_con ?_ | with_reducible refine w_set ?_ | with_reducible refine w_ret ?_ | with_reducible refine w_expr ?_ | with_reducible refine w_unp ?_ | with_reducible refine w_par ?_ | with_reducible refine w_ite ?_ | with_reducible refine w_nx ?_ | with_reducible refine w_rt ?_ | with_reducible refine w_nil ?_ | with_reducible refine w_tup ?_ | with_reducible refine w_lst ?_ | with_reducible refine w_bin ?_ | with_reducible refine w_neg ?_ | with_reducible refine w_not ?_ | with_reducible refine w_cmp ?_ | with_reducible refine w_and ?_ | with_reducible refine w_or ?_ | with_reducible refine w_iff ?_ | with_reducible refine w_isN ?_ | with_reducible refine w_isNN ?_ | with_reducible refine w_callC ?_ | with_reducible refine w_call ?_ | with_reducible refine w_bi ?_ | with_reducible refine w_mt ?_ | with_reducible refine w_idx ?_ | with_reducible refine w_slc ?_ | with_reducible refine w_on ?_ | with_reducible refine w_os ?_ | with_reducible refine w_rev ?_ | with_reducible refine w_sset ?_ | with_reducible refine w_lrng ?_ | with_reducible refine w_lc ?_ | with_reducible refine w_enil ?_ | with_reducible refine w_cons ?_ | with_reducible refine w_star ?_ | with_reducible refine w_ex ?_ | with_reducible refine w_rng1 ?_ | with_reducible refine w_rng2 ?_ | with_reducible refine w_enm ?_ | with_reducible refine w_sub ?_ | with_reducible refine w_dct0 ?_ | with_reducible refine w_isi ?_ | with_reducible refine w_cmp2 ?_ | with_reducible refine w_eq bin_add ?_ | with_reducible refine w_eq bi_lenP ?_ | with_reducible refine w_eq (bi_len len_tup) ?_ | with_reducible refine w_eq (bi_len len_lst) ?_ | with_reducible refine w_eq bin_sub ?_ | with_reducible refine w_eq (bin_fdiv (by decide) (by decide)) ?_ | with_reducible refine ⟨_, cmp_neB, ?_⟩ | with_reducible refine ⟨_, cmp_eqB, ?_⟩ | with_reducible refine ⟨_, cmp_neS, ?_⟩ | with_reducible refine ⟨_, cmp_eqS, ?_⟩ | with_reducible refine ⟨_, cmp_eqI, ?_⟩ | with_reducible refine ⟨_, cmp_neI, ?_⟩ | with_reducible refine ⟨_, truth_bool, ?_⟩ | with_reducible refine ⟨_, ix_pr0, ?_⟩ | with_reducible refine ⟨_, ix_pr1, ?_⟩ | with_reducible refine ⟨_, ix_book, ?_⟩ | with_reducible refine ⟨kind_new, ?_⟩ | with_reducible refine ⟨rfl, ?_⟩ | (with_reducible refine ex_id ?_; refine ⟨_, rfl, ?_⟩) | (with_reducible refine w_len ?_; refine ⟨_, rfl, ?_⟩) | (with_reducible refine w_mkT ?_; refine ⟨_, _, rfl, ?_⟩) | (with_reducible refine w_mkL ?_; refine ⟨_, _, rfl, ?_⟩))
            refine (show ∃ x, Fl.rt (.d (encS ⟨[], some ((j : Int), (i : Int))⟩)) = Fl.rt (Val.d x) ∧ PartS a b x from ⟨_, rfl, .inr ⟨j, i, rfl, by omega, by omega, by omega, by omega, fun z => ?_⟩⟩)
            rw [show decide (gt a (j : Nat) ≤ gt a (i : Nat)) = decide (gt b (j : Nat) ≤ gt b (i : Nat)) from z] at hq
            simp at hq
          · repeat (first | (with_reducible refine w_loc ?_; refine ⟨_, rfl, ?_⟩) | (with_reducible refine w_glo ?_; refine ⟨_, rfl, ?_⟩) | with_reducible refine w_con ?_ | with_reducible refine w_set ?_ | with_reducible refine w_ret ?_ | with_reducible refine w_expr ?_ | with_reducible refine w_unp ?_ | with_reducible refine w_par ?_ | with_reducible refine w_ite ?_ | with_reducible refine w_nx ?_ | with_reducible refine w_rt ?_ | with_reducible refine w_nil ?_ | with_reducible refine w_tup ?_ | with_reducible refine w_lst ?_ | with_reducible refine w_bin ?_ | with_reducible refine w_neg ?_ | with_reducible refine w_not ?_ | with_reducible refine w_cmp ?_ | with_reducible refine w_and ?_ | with_reducible refine w_or ?_ | with_reducible refine w_iff ?_ | with_reducible refine w_isN ?_ | with_reducible refine w_isNN ?_ | with_reducible refine w_callC ?_ | with_reducible refine w_call ?_ | with_reducible refine w_bi ?_ | with_reducible refine w_mt ?_ | with_reducible refine w_idx ?_ | with_reducible refine w_slc ?_ | with_reducible refine w_on ?_ | with_reducible refine w_os ?_ | with_reducible refine w_rev ?_ | with_reducible refine w_sset ?_ | with_reducible refine w_lrng ?_ | with_reducible refine w_lc ?_ | with_reducible refine w_enil ?_ | with_reducible refine w_cons ?_ | with_reducible refine w_star ?_ | with_reducible refine w_ex ?_ | with_reducible refine w_rng1 ?_ | with_reducible refine w_rng2 ?_ | with_reducible refine w_enm ?_ | with_reducible refine w_sub ?_ | with_reducible refine w_dct0 ?_ | with_reducible refine w_isi ?_ | with_reducible refine w_cmp2 ?_ | with_reducible refine w_eq bin_add ?_ | with_reducible refine w_eq bi_lenP ?_ | with_reducible refine w_eq (bi_len len_tup) ?_ | with_reducible refine w_eq (bi_len len_lst) ?_ | with_reducible refine w_eq bin_sub ?_ | with_reducible refine w_eq (bin_fdiv (by decide) (by decide)) ?_ | with_reducible refine ⟨_, cmp_neB, ?_⟩ | with_reducible refine ⟨_, cmp_eqB, ?_⟩ | with_reducible refine ⟨_, cmp_neS, ?_⟩ | with_reducible refine ⟨_, cmp_eqS, ?_⟩ | with_reducible refine ⟨_, cmp_eqI, ?_⟩ | with_reducible refine ⟨_, cmp_neI, ?_⟩ | with_reducible refine ⟨_, truth_bool, ?_⟩ | with_reducible refine ⟨_, ix_pr0, ?_⟩ | with_reducible refine ⟨_, ix_pr1, ?_⟩ | with_reducible refine ⟨_, ix_book, ?_⟩ | with_reducible refine ⟨kind_new, ?_⟩ | with_reducible refine ⟨rfl, ?_⟩ | (with_reducible refine ex_id ?_; refine ⟨_, rfl, ?_⟩) | (with_reducible refine w_len ?_; refine ⟨_, rfl, ?_⟩) | (with_reducible refine w_mkT ?_; refine ⟨_, _, rfl, ?_⟩) | (with_reducible refine w_mkL ?_; refine ⟨_, _, rfl, ?_⟩))
            have hz : agr a b j i := by
              unfold agr
              simpa using hq
            refine ⟨rfl, i + 1, d, _, by rw [Int.natCast_add]; rfl, by omega, rfl, fun v h1 h2 => ?_⟩
            by_cases e : v = i
            · rw [e]; exact hz
            · exact hai v h1 (by omega)
      · subst e0 he
        match d, ez with
        | 0, _ =>
          repeat (first | (with_reducible refine w_loc ?_; refine ⟨_, rfl, ?_⟩) | (with_reducible refine w_glo ?_; refine ⟨_, rfl, ?_⟩) | with_reducible refine w_con ?_ | with_reducible refine w_set ?_ | with_reducible refine w_ret ?_ | with_reducible refine w_expr ?_ | with_reducible refine w_unp ?_ | with_reducible refine w_par ?_ | with_reducible refine w_ite ?_ | with_reducible refine w_nx ?_ | with_reducible refine w_rt ?_ | with_reducible refine w_nil ?_ | with_reducible refine w_tup ?_ | with_reducible refine w_lst ?_ | with_reducible refine w_bin ?_ | with_reducible refine w_neg ?_ | with_reducible refine w_not ?_ | with_reducible refine w_cmp ?_ | with_reducible refine w_and ?_ | with_reducible refine w_or ?_ | with_reducible refine w_iff ?_ | with_reducible refine w_isN ?_ | with_reducible refine w_isNN ?_ | with_reducible refine w_callC ?_ | with_reducible refine w_call ?_ | with_reducible refine w_bi ?_ | with_reducible refine w_mt ?_ | with_reducible refine w_idx ?_ | with_reducible refine w_slc ?_ | with_reducible refine w_on ?_ | with_reducible refine w_os ?_ | with_reducible refine w_rev ?_ | with_reducible refine w_sset ?_ | with_reducible refine w_lrng ?_ | with_reducible refine w_lc ?_ | with_reducible refine w_enil ?_ | with_reducible refine w_cons ?_ | with_reducible refine w_star ?_ | with_reducible refine w_ex ?_ | with_reducible refine w_rng1 ?_ | with_reducible refine w_rng2 ?_ | with_reducible refine w_enm ?_ | with_reducible refine w_sub ?_ | with_reducible refine w_dct0 ?_ | with_reducible refine w_isi ?_ | with_reducible refine w_cmp2 ?_ | with_reducible refine w_eq bin_add ?_ | with_reducible refine w_eq bi_lenP ?_ | with_reducible refine w_eq (bi_len len_tup) ?_ | with_reducible refine w_eq (bi_len len_lst) ?_ | with_reducible refine w_eq bin_sub ?_ | with_reducible refine w_eq (bin_fdiv (by decide) (by decide)) ?_ | with_reducible refine ⟨_, cmp_neB, ?_⟩ | with_reducible refine ⟨_, cmp_eqB, ?_⟩ | with_reducible refine ⟨_, cmp_neS, ?_⟩ | with_reducible refine ⟨_, cmp_eqS, ?_⟩ | with_reducible refine ⟨_, cmp_eqI, ?_⟩ | with_reducible refine ⟨_, cmp_neI, ?_⟩ | with_reducible refine ⟨_, truth_bool, ?_⟩ | with_reducible refine ⟨_, ix_pr0, ?_⟩ | with_reducible refine ⟨_, ix_pr1, ?_⟩ | with_reducible refine ⟨_, ix_book, ?_⟩ | with_reducible refine ⟨kind_new, ?_⟩ | with_reducible refine ⟨rfl, ?_⟩ | (with_reducible refine ex_id ?_; refine ⟨_, rfl, ?_⟩) | (with_reducible refine w_len ?_; refine ⟨_, rfl, ?_⟩) | (with_reducible refine w_mkT ?_; refine ⟨_, _, rfl, ?_⟩) | (with_reducible refine w_mkL ?_; refine ⟨_, _, rfl, ?_⟩))
          refine ⟨rfl, j + 1, c, _, _, by rw [Int.natCast_add]; rfl, by omega, rfl, fun u v h1 h2 h3 h4 => ?_⟩
          by_cases e : u = j
          · rw [e]; exact hai v h3 (by omega)
          · exact hag u v h1 (by omega) h3 h4
  · subst e0 he
    match c, ez with
    | 0, _ =>
      repeat (first | (with_reducible refine w_loc ?_; refine ⟨_, rfl, ?_⟩) | (with_reducible refine w_glo ?_; refine ⟨_, rfl, ?_⟩) | with_reducible refine w_con ?_ | with_reducible refine w_set ?_ | with_reducible refine w_ret ?_ | with_reducible refine w_expr ?_ | with_reducible refine w_unp ?_ | with_reducible refine w_par ?_ | with_reducible refine w_ite ?_ | with_reducible refine w_nx ?_ | with_reducible refine w_rt ?_ | with_reducible refine w_nil ?_ | with_reducible refine w_tup ?_ | with_reducible refine w_lst ?_ | with_reducible refine w_bin ?_ | with_reducible refine w_neg ?_ | with_reducible refine w_not ?_ | with_reducible refine w_cmp ?_ | with_reducible refine w_and ?_ | with_reducible refine w_or ?_ | with_reducible refine w_iff ?_ | with_reducible refine w_isN ?_ | with_reducible refine w_isNN ?_ | with_reducible refine w_callC ?_ | with_reducible refine w_call ?_ | with_reducible refine w_bi ?_ | with_reducible refine w_mt ?_ | with_reducible refine w_idx ?_ | with_reducible refine w_slc ?_ | with_reducible refine w_on ?_ | with_reducible refine w_os ?_ | with_reducible refine w_rev ?_ | with_reducible refine w_sset ?_ | with_reducible refine w_lrng ?_ | with_reducible refine w_lc ?_ | with_reducible refine w_enil ?_ | with_reducible refine w_cons ?_ | with_reducible refine w_star ?_ | with_reducible refine w_ex ?_ | with_reducible refine w_rng1 ?_ | with_reducible refine w_rng2 ?_ | with_reducible refine w_enm ?_ | with_reducible refine w_sub ?_ | with_reducible refine w_dct0 ?_ | with_reducible refine w_isi ?_ | with_reducible refine w_cmp2 ?_ | with_reducible refine w_eq bin_add ?_ | with_reducible refine w_eq bi_lenP ?_ | with_reducible refine w_eq (bi_len len_tup) ?_ | with_reducible refine w_eq (bi_len len_lst) ?_ | with_reducible refine w_eq bin_sub ?_ | with_reducible refine w_eq (bin_fdiv (by decide) (by decide)) ?_ | with_reducible refine ⟨_, cmp_neB, ?_⟩ | with_reducible refine ⟨_, cmp_eqB, ?_⟩ | with_reducible refine ⟨_, cmp_neS, ?_⟩ | with_reducible refine ⟨_, cmp_eqS, ?_⟩ | with_reducible refine ⟨_, cmp_eqI, ?_⟩ | with_reducible refine ⟨_, cmp_neI, ?_⟩ | with_reducible refine ⟨_, truth_bool, ?_⟩ | with_reducible refine ⟨_, ix_pr0, ?_⟩ | with_reducible refine ⟨_, ix_pr1, ?_⟩ | with_reducible refine ⟨_, ix_book, ?_⟩ | with_reducible refine ⟨kind_new, ?_⟩ | with_reducible refine ⟨rfl, ?_⟩ | (with_reducible refine ex_id ?_; refine ⟨_, rfl, ?_⟩) | (with_reducible refine w_len ?_; refine ⟨_, rfl, ?_⟩) | (with_reducible refine w_mkT ?_; refine ⟨_, _, rfl, ?_⟩) | (with_reducible refine w_mkL ?_; refine ⟨_, _, rfl, ?_⟩))
      exact .inl ⟨rfl, fun u v h1 h2 h3 h4 => hag u v h1 (by omega) h3 h4⟩
end
/-! ### a placing of the same order, drawn -/
theorem valK_put {j q : Key} {v : Val} : ∀ {kvs : List (Key × Val)}, valK j (putK q v kvs) = if q = j then some v else valK j kvs := by
  intro kvs
  unfold putK
  by_cases hq : (kvs.any fun kv => decide (kv.1 = q)) = true
  · rw [if_pos hq]
    induction kvs with
    | nil => simp at hq
    | cons p kvs ih =>
      obtain ⟨a, b⟩ := p
      rw [List.map_cons]
      by_cases e : a = q
      · subst e
        rw [if_pos rfl]
        by_cases e2 : a = j
        · simp [valK, e2]
        · have hrest : ∀ l : List (Key × Val), valK j (l.map fun kv => if kv.1 = a then (kv.1, v) else kv) = valK j l := fun l => by
            induction l with
            | nil => rfl
            | cons p l ihl =>
              obtain ⟨c, d⟩ := p
              by_cases e3 : c = a
              · simp [valK, e3, e2, ihl]
              · simp only [List.map_cons, if_neg e3, valK, ihl]
          simp only [valK, if_neg e2, hrest]
      · rw [if_neg e]
        have hq2 : (kvs.any fun kv => decide (kv.1 = q)) = true := by simpa [e] using hq
        by_cases e2 : a = j
        · have e3 : ¬ q = j := fun z => e (e2.trans z.symm)
          simp [valK, e2, e3]
        · simp only [valK, if_neg e2, ih hq2]
  · rw [if_neg hq]
    have hno : ∀ p ∈ kvs, p.1 ≠ q := fun p hp e => hq (List.any_eq_true.mpr ⟨p, hp, decide_eq_true e⟩)
    clear hq
    induction kvs with
    | nil =>
      by_cases e : q = j <;> simp [valK, e]
    | cons p kvs ih =>
      obtain ⟨a, b⟩ := p
      have h1 := hno _ List.mem_cons_self
      have ih := ih fun p hp => hno p (List.mem_cons_of_mem _ hp)
      rw [List.cons_append]
      by_cases e2 : a = j
      · have e3 : ¬ q = j := fun z => h1 (e2.trans z.symm)
        simp [valK, e2, e3]
      · simp only [valK, if_neg e2, ih]
theorem putK_le {q : Key} {v : Val} {kvs : List (Key × Val)} : (putK q v kvs).length ≤ kvs.length + 1 := by
  unfold putK
  split
  · rw [List.length_map]; omega
  · rw [List.length_append]; exact Nat.le_refl _
def lkI (kvs : List (Key × Val)) (x : Int) : Int := match valK (.inl x) kvs with
  | some (.d (.int i)) => i
  | _ => 0
theorem lkI_of {kvs : List (Key × Val)} {x i : Int} (h : valK (.inl x) kvs = some (iv i)) : lkI kvs x = i := by
  unfold lkI
  rw [h]
def PA (ps : List Int) (R : Sto) (zs : List D) (en : Slots) (st : Sto) : Prop := ∃ (L : List Int) (here : Int) (kvs : List (Key × Val)) (x5 : Option Val), zs = L.map PyData.int ∧ Gr st (R ++ [.dK kvs]) ∧ en = [some (.ref 2), some (.d (encP ps)), some (.d (.list ((ssetI ps).map PyData.int))), some (iv here), some (.ref (3 + R.length)), x5, none] ∧
    here.natAbs + L.length * 10 ^ 22 ≤ 10 + 64 * 10 ^ 22 ∧ kvs.length + L.length ≤ 100 ∧ ∀ x ∈ ssetI ps, x ∈ L ∨ ∃ i : Int, valK (.inl x) kvs = some (iv i) ∧ i.natAbs ≤ 10 ^ 25
theorem alike_ok {k : Nat} {ps : List Int} {st rest : Sto} (hl : ps.length < 64) (h : Gr st rest) : Ok (calls gdefs gglo (k + 3) 61 [.ref 2, .d (encP ps)] st) fun v st' => Gr st' rest ∧ ∃ qs, v = .d (encP qs) ∧ qs.length = ps.length ∧ Sm (10 ^ 25) qs := by
  rw [calls_run gd61]
  refine w_imp rfl rfl ?_
  show Ok (evSs _ b61 [some (.ref 2), some (.d (encP ps)), none, none, none, none, none] _) _
  unfold b61
  repeat (first | (with_reducible refine w_loc ?_; refine ⟨_, rfl, ?_⟩) | (with_reducible refine w_glo ?_; refine ⟨_, rfl, ?_⟩) | with_reducible refine w_con ?_ | with_reducible refine w_set ?_ | with_reducible refine w_ret ?_ | with_reducible refine w_expr ?_ | with_reducible refine w_unp ?_ | with_reducible refine w_par ?_ | with_reducible refine w_ite ?_ | with_reducible refine w_nx ?_ | with_reducible refine w_rt ?_ | with_reducible refine w_nil ?_ | with_reducible refine w_tup ?_ | with_reducible refine w_lst ?_ | with_reducible refine w_bin ?_ | with_reducible refine w_neg ?_ | with_reducible refine w_not ?_ | with_reducible refine w_cmp ?_ | with_reducible refine w_and ?_ | with_reducible refine w_or ?_ | with_reducible refine w_iff ?_ | with_reducible refine w_isN ?_ | with_reducible refine w_isNN ?_ | with_reducible refine w_callC ?_ | with_reducible refine w_call ?_ | with_reducible refine w_bi ?_ | with_reducible refine w_mt ?_ | with_reducible refine w_idx ?_ | with_reducible refine w_slc ?_ | with_reducible refine w_on ?_ | with_reducible refine w_os ?_ | with_reducible refine w_rev ?_ | with_reducible refine w_sset ?_ | with_reducible refine w_lrng ?_ | with_reducible refine w_lc ?_ | with_reducible refine w_enil ?_ | with_reducible refine w_cons ?_ | with_reducible refine w_star ?_ | with_reducible refine w_ex ?_ | with_reducible refine w_rng1 ?_ | with_reducible refine w_rng2 ?_ | with_reducible refine w_enm ?_ | with_reducible refine w_sub ?_ | with_reducible refine w_dct0 ?_ | with_reducible refine w_isi ?_ | with_reducible refine w_cmp2 ?_ | with_reducible refine w_eq bin_add ?_ | with_reducible refine w_eq bi_lenP ?_ | with_reducible refine w_eq (bi_len len_tup) ?_ | with_reducible refine w_eq (bi_len len_lst) ?_ | with_reducible refine w_eq bin_sub ?_ | with_reducible refine w_eq (bin_fdiv (by decide) (by decide)) ?_ | with_reducible refine ⟨_, cmp_neB, ?_⟩ | with_reducible refine ⟨_, cmp_eqB, ?_⟩ | with_reducible refine ⟨_, cmp_neS, ?_⟩ | with_reducible refine ⟨_, cmp_eqS, ?_⟩ | with_reducible refine ⟨_, cmp_eqI, ?_⟩ | with_reducible refine ⟨_, cmp_neI, ?_⟩ | with_reducible refine ⟨_, truth_bool, ?_⟩ | with_reducible refine ⟨_, ix_pr0, ?_⟩ | with_reducible refine ⟨_, ix_pr1, ?_⟩ | with_reducible refine ⟨_, ix_book, ?_⟩ | with_reducible refine ⟨kind_new, ?_⟩ | with_reducible refine ⟨rfl, ?_⟩ | (with_reducible refine ex_id ?_; refine ⟨_, rfl, ?_⟩) | (with_reducible refine w_len ?_; refine ⟨_, rfl, ?_⟩) | (with_reducible refine w_mkT ?_; refine ⟨_, _, rfl, ?_⟩) | (with_reducible refine w_mkL ?_; refine ⟨_, _, rfl, ?_⟩))
  refine w_eq (sset_run hl) ?_
  repeat (first | (with_reducible refine w_loc ?_; refine ⟨_, rfl, ?_⟩) | (with_reducible refine w_glo ?_; refine ⟨_, rfl, ?_⟩) | with_reducible refine w_con ?_ | with_reducible refine w_set ?_ | with_reducible refine w_ret ?_ | with_reducible refine w_expr ?_ | with_reducible refine w_unp ?_ | with_reducible refine w_par ?_ | with_reducible refine w_ite ?_ | with_reducible refine w_nx ?_ | with_reducible refine w_rt ?_ | with_reducible refine w_nil ?_ | with_reducible refine w_tup ?_ | with_reducible refine w_lst ?_ | with_reducible refine w_bin ?_ | with_reducible refine w_neg ?_ | with_reducible refine w_not ?_ | with_reducible refine w_cmp ?_ | with_reducible refine w_and ?_ | with_reducible refine w_or ?_ | with_reducible refine w_iff ?_ | with_reducible refine w_isN ?_ | with_reducible refine w_isNN ?_ | with_reducible refine w_callC ?_ | with_reducible refine w_call ?_ | with_reducible refine w_bi ?_ | with_reducible refine w_mt ?_ | with_reducible refine w_idx ?_ | with_reducible refine w_slc ?_ | with_reducible refine w_on ?_ | with_reducible refine w_os ?_ | with_reducible refine w_rev ?_ | with_reducible refine w_sset ?_ | with_reducible refine w_lrng ?_ | with_reducible refine w_lc ?_ | with_reducible refine w_enil ?_ | with_reducible refine w_cons ?_ | with_reducible refine w_star ?_ | with_reducible refine w_ex ?_ | with_reducible refine w_rng1 ?_ | with_reducible refine w_rng2 ?_ | with_reducible refine w_enm ?_ | with_reducible refine w_sub ?_ | with_reducible refine w_dct0 ?_ | with_reducible refine w_isi ?_ | with_reducible refine w_cmp2 ?_ | with_reducible refine w_eq bin_add ?_ | with_reducible refine w_eq bi_lenP ?_ | with_reducible refine w_eq (bi_len len_tup) ?_ | with_reducible refine w_eq (bi_len len_lst) ?_ | with_reducible refine w_eq bin_sub ?_ | with_reducible refine w_eq (bin_fdiv (by decide) (by decide)) ?_ | with_reducible refine ⟨_, cmp_neB, ?_⟩ | with_reducible refine ⟨_, cmp_eqB, ?_⟩ | with_reducible refine ⟨_, cmp_neS, ?_⟩ | with_reducible refine ⟨_, cmp_eqS, ?_⟩ | with_reducible refine ⟨_, cmp_eqI, ?_⟩ | with_reducible refine ⟨_, cmp_neI, ?_⟩ | with_reducible refine ⟨_, truth_bool, ?_⟩ | with_reducible refine ⟨_, ix_pr0, ?_⟩ | with_reducible refine ⟨_, ix_pr1, ?_⟩ | with_reducible refine ⟨_, ix_book, ?_⟩ | with_reducible refine ⟨kind_new, ?_⟩ | with_reducible refine ⟨rfl, ?_⟩ | (with_reducible refine ex_id ?_; refine ⟨_, rfl, ?_⟩) | (with_reducible refine w_len ?_; refine ⟨_, rfl, ?_⟩) | (with_reducible refine w_mkT ?_; refine ⟨_, _, rfl, ?_⟩) | (with_reducible refine w_mkL ?_; refine ⟨_, _, rfl, ?_⟩))
  obtain ⟨v, st1, e1, g1, w, rfl, hw0, hw⟩ := pick_gr (k := k + 1) (many := 9) (by omega) h
  refine w_eq e1 ?_
  repeat (first | (with_reducible refine w_loc ?_; refine ⟨_, rfl, ?_⟩) | (with_reducible refine w_glo ?_; refine ⟨_, rfl, ?_⟩) | with_reducible refine w_con ?_ | with_reducible refine w_set ?_ | with_reducible refine w_ret ?_ | with_reducible refine w_expr ?_ | with_reducible refine w_unp ?_ | with_reducible refine w_par ?_ | with_reducible refine w_ite ?_ | with_reducible refine w_nx ?_ | with_reducible refine w_rt ?_ | with_reducible refine w_nil ?_ | with_reducible refine w_tup ?_ | with_reducible refine w_lst ?_ | with_reducible refine w_bin ?_ | with_reducible refine w_neg ?_ | with_reducible refine w_not ?_ | with_reducible refine w_cmp ?_ | with_reducible refine w_and ?_ | with_reducible refine w_or ?_ | with_reducible refine w_iff ?_ | with_reducible refine w_isN ?_ | with_reducible refine w_isNN ?_ | with_reducible refine w_callC ?_ | with_reducible refine w_call ?_ | with_reducible refine w_bi ?_ | with_reducible refine w_mt ?_ | with_reducible refine w_idx ?_ | with_reducible refine w_slc ?_ | with_reducible refine w_on ?_ | with_reducible refine w_os ?_ | with_reducible refine w_rev ?_ | with_reducible refine w_sset ?_ | with_reducible refine w_lrng ?_ | with_reducible refine w_lc ?_ | with_reducible refine w_enil ?_ | with_reducible refine w_cons ?_ | with_reducible refine w_star ?_ | with_reducible refine w_ex ?_ | with_reducible refine w_rng1 ?_ | with_reducible refine w_rng2 ?_ | with_reducible refine w_enm ?_ | with_reducible refine w_sub ?_ | with_reducible refine w_dct0 ?_ | with_reducible refine w_isi ?_ | with_reducible refine w_cmp2 ?_ | with_reducible refine w_eq bin_add ?_ | with_reducible refine w_eq bi_lenP ?_ | with_reducible refine w_eq (bi_len len_tup) ?_ | with_reducible refine w_eq (bi_len len_lst) ?_ | with_reducible refine w_eq bin_sub ?_ | with_reducible refine w_eq (bin_fdiv (by decide) (by decide)) ?_ | with_reducible refine ⟨_, cmp_neB, ?_⟩ | with_reducible refine ⟨_, cmp_eqB, ?_⟩ | with_reducible refine ⟨_, cmp_neS, ?_⟩ | with_reducible refine ⟨_, cmp_eqS, ?_⟩ | with_reducible refine ⟨_, cmp_eqI, ?_⟩ | with_reducible refine ⟨_, cmp_neI, ?_⟩ | with_reducible refine ⟨_, truth_bool, ?_⟩ | with_reducible refine ⟨_, ix_pr0, ?_⟩ | with_reducible refine ⟨_, ix_pr1, ?_⟩ | with_reducible refine ⟨_, ix_book, ?_⟩ | with_reducible refine ⟨kind_new, ?_⟩ | with_reducible refine ⟨rfl, ?_⟩ | (with_reducible refine ex_id ?_; refine ⟨_, rfl, ?_⟩) | (with_reducible refine w_len ?_; refine ⟨_, rfl, ?_⟩) | (with_reducible refine w_mkT ?_; refine ⟨_, _, rfl, ?_⟩) | (with_reducible refine w_mkL ?_; refine ⟨_, _, rfl, ?_⟩))
  obtain ⟨R, eR, g2, back⟩ := g1.push (.dK [])
  rw [eR]
  have hL := ssetI_len ps
  refine w_loop (PA ps R) ?_ (fun z zs en st ⟨L, here, kvs, x5, ez, gL, he, hh, hk, hv⟩ => ?_) (fun en st ⟨L, here, kvs, x5, ez, gL, he, hh, hk, hv⟩ => ?_)
  · repeat (first | (with_reducible refine w_loc ?_; refine ⟨_, rfl, ?_⟩) | (with_reducible refine w_glo ?_; refine ⟨_, rfl, ?_⟩) | with_reducible refine w_con ?_ | with_reducible refine w_set ?_ | with_reducible refine w_ret ?_ | with_reducible refine w_expr ?_ | with_reducible refine w_unp ?_ | with_reducible refine w_par ?_ | with_reducible refine w_ite ?_ | with_reducible refine w_nx ?_ | with_reducible refine w_rt ?_ | with_reducible refine w_nil ?_ | with_reducible refine w_tup ?_ | with_reducible refine w_lst ?_ | with_reducible refine w_bin ?_ | with_reducible refine w_neg ?_ | with_reducible refine w_not ?_ | with_reducible refine w_cmp ?_ | with_reducible refine w_and ?_ | with_reducible refine w_or ?_ | with_reducible refine w_iff ?_ | with_reducible refine w_isN ?_ | with_reducible refine w_isNN ?_ | with_reducible refine w_callC ?_ | with_reducible refine w_call ?_ | with_reducible refine w_bi ?_ | with_reducible refine w_mt ?_ | with_reducible refine w_idx ?_ | with_reducible refine w_slc ?_ | with_reducible refine w_on ?_ | with_reducible refine w_os ?_ | with_reducible refine w_rev ?_ | with_reducible refine w_sset ?_ | with_reducible refine w_lrng ?_ | with_reducible refine w_lc ?_ | with_reducible refine w_enil ?_ | with_reducible refine w_cons ?_ | with_reducible refine w_star ?_ | with_reducible refine w_ex ?_ | with_reducible refine w_rng1 ?_ | with_reducible refine w_rng2 ?_ | with_reducible refine w_enm ?_ | with_reducible refine w_sub ?_ | with_reducible refine w_dct0 ?_ | with_reducible refine w_isi ?_ | with_reducible refine w_cmp2 ?_ | with_reducible refine w_eq bin_add ?_ | with_reducible refine w_eq bi_lenP ?_ | with_reducible refine w_eq (bi_len len_tup) ?_ | with_reducible refine w_eq (bi_len len_lst) ?_ | with_reducible refine w_eq bin_sub ?_ | with_reducible refine w_eq (bin_fdiv (by decide) (by decide)) ?_ | with_reducible refine ⟨_, cmp_neB, ?_⟩ | with_reducible refine ⟨_, cmp_eqB, ?_⟩ | with_reducible refine ⟨_, cmp_neS, ?_⟩ | with_reducible refine ⟨_, cmp_eqS, ?_⟩ | with_reducible refine ⟨_, cmp_eqI, ?_⟩ | with_reducible refine ⟨_, cmp_neI, ?_⟩ | with_reducible refine ⟨_, truth_bool, ?_⟩ | with_reducible refine ⟨_, ix_pr0, ?_⟩ | with_reducible refine ⟨_, ix_pr1, ?_⟩ | with_reducible refine ⟨_, ix_book, ?_⟩ | with_reducible refine ⟨kind_new, ?_⟩ | with_reducible refine ⟨rfl, ?_⟩ | (with_reducible refine ex_id ?_; refine ⟨_, rfl, ?_⟩) | (with_reducible refine w_len ?_; refine ⟨_, rfl, ?_⟩) | (with_reducible refine w_mkT ?_; refine ⟨_, _, rfl, ?_⟩) | (with_reducible refine w_mkL ?_; refine ⟨_, _, rfl, ?_⟩))
    exact ⟨ssetI ps, w - 9, [], none, rfl, g2, rfl, by omega, by simp; omega, fun x hx => .inl hx⟩
  · subst he
    cases L with
    | nil => cases ez
    | cons y L =>
      cases ez
      refine ⟨_, rfl, ?_⟩
      repeat (first | (with_reducible refine w_loc ?_; refine ⟨_, rfl, ?_⟩) | (with_reducible refine w_glo ?_; refine ⟨_, rfl, ?_⟩) | with_reducible refine w_con ?_ | with_reducible refine w_set ?_ | with_reducible refine w_ret ?_ | with_reducible refine w_expr ?_ | with_reducible refine w_unp ?_ | with_reducible refine w_par ?_ | with_reducible refine w_ite ?_ | with_reducible refine w_nx ?_ | with_reducible refine w_rt ?_ | with_reducible refine w_nil ?_ | with_reducible refine w_tup ?_ | with_reducible refine w_lst ?_ | with_reducible refine w_bin ?_ | with_reducible refine w_neg ?_ | with_reducible refine w_not ?_ | with_reducible refine w_cmp ?_ | with_reducible refine w_and ?_ | with_reducible refine w_or ?_ | with_reducible refine w_iff ?_ | with_reducible refine w_isN ?_ | with_reducible refine w_isNN ?_ | with_reducible refine w_callC ?_ | with_reducible refine w_call ?_ | with_reducible refine w_bi ?_ | with_reducible refine w_mt ?_ | with_reducible refine w_idx ?_ | with_reducible refine w_slc ?_ | with_reducible refine w_on ?_ | with_reducible refine w_os ?_ | with_reducible refine w_rev ?_ | with_reducible refine w_sset ?_ | with_reducible refine w_lrng ?_ | with_reducible refine w_lc ?_ | with_reducible refine w_enil ?_ | with_reducible refine w_cons ?_ | with_reducible refine w_star ?_ | with_reducible refine w_ex ?_ | with_reducible refine w_rng1 ?_ | with_reducible refine w_rng2 ?_ | with_reducible refine w_enm ?_ | with_reducible refine w_sub ?_ | with_reducible refine w_dct0 ?_ | with_reducible refine w_isi ?_ | with_reducible refine w_cmp2 ?_ | with_reducible refine w_eq bin_add ?_ | with_reducible refine w_eq bi_lenP ?_ | with_reducible refine w_eq (bi_len len_tup) ?_ | with_reducible refine w_eq (bi_len len_lst) ?_ | with_reducible refine w_eq bin_sub ?_ | with_reducible refine w_eq (bin_fdiv (by decide) (by decide)) ?_ | with_reducible refine ⟨_, cmp_neB, ?_⟩ | with_reducible refine ⟨_, cmp_eqB, ?_⟩ | with_reducible refine ⟨_, cmp_neS, ?_⟩ | with_reducible refine ⟨_, cmp_eqS, ?_⟩ | with_reducible refine ⟨_, cmp_eqI, ?_⟩ | with_reducible refine ⟨_, cmp_neI, ?_⟩ | with_reducible refine ⟨_, truth_bool, ?_⟩ | with_reducible refine ⟨_, ix_pr0, ?_⟩ | with_reducible refine ⟨_, ix_pr1, ?_⟩ | with_reducible refine ⟨_, ix_book, ?_⟩ | with_reducible refine ⟨kind_new, ?_⟩ | with_reducible refine ⟨rfl, ?_⟩ | (with_reducible refine ex_id ?_; refine ⟨_, rfl, ?_⟩) | (with_reducible refine w_len ?_; refine ⟨_, rfl, ?_⟩) | (with_reducible refine w_mkT ?_; refine ⟨_, _, rfl, ?_⟩) | (with_reducible refine w_mkL ?_; refine ⟨_, _, rfl, ?_⟩))
      refine w_eq (a := .d (.int 100000000000000000000)) rfl ?_
      repeat (first | (with_reducible refine w_loc ?_; refine ⟨_, rfl, ?_⟩) | (with_reducible refine w_glo ?_; refine ⟨_, rfl, ?_⟩) | with_reducible refine w_con ?_ | with_reducible refine w_set ?_ | with_reducible refine w_ret ?_ | with_reducible refine w_expr ?_ | with_reducible refine w_unp ?_ | with_reducible refine w_par ?_ | with_reducible refine w_ite ?_ | with_reducible refine w_nx ?_ | with_reducible refine w_rt ?_ | with_reducible refine w_nil ?_ | with_reducible refine w_tup ?_ | with_reducible refine w_lst ?_ | with_reducible refine w_bin ?_ | with_reducible refine w_neg ?_ | with_reducible refine w_not ?_ | with_reducible refine w_cmp ?_ | with_reducible refine w_and ?_ | with_reducible refine w_or ?_ | with_reducible refine w_iff ?_ | with_reducible refine w_isN ?_ | with_reducible refine w_isNN ?_ | with_reducible refine w_callC ?_ | with_reducible refine w_call ?_ | with_reducible refine w_bi ?_ | with_reducible refine w_mt ?_ | with_reducible refine w_idx ?_ | with_reducible refine w_slc ?_ | with_reducible refine w_on ?_ | with_reducible refine w_os ?_ | with_reducible refine w_rev ?_ | with_reducible refine w_sset ?_ | with_reducible refine w_lrng ?_ | with_reducible refine w_lc ?_ | with_reducible refine w_enil ?_ | with_reducible refine w_cons ?_ | with_reducible refine w_star ?_ | with_reducible refine w_ex ?_ | with_reducible refine w_rng1 ?_ | with_reducible refine w_rng2 ?_ | with_reducible refine w_enm ?_ | with_reducible refine w_sub ?_ | with_reducible refine w_dct0 ?_ | with_reducible refine w_isi ?_ | with_reducible refine w_cmp2 ?_ | with_reducible refine w_eq bin_add ?_ | with_reducible refine w_eq bi_lenP ?_ | with_reducible refine w_eq (bi_len len_tup) ?_ | with_reducible refine w_eq (bi_len len_lst) ?_ | with_reducible refine w_eq bin_sub ?_ | with_reducible refine w_eq (bin_fdiv (by decide) (by decide)) ?_ | with_reducible refine ⟨_, cmp_neB, ?_⟩ | with_reducible refine ⟨_, cmp_eqB, ?_⟩ | with_reducible refine ⟨_, cmp_neS, ?_⟩ | with_reducible refine ⟨_, cmp_eqS, ?_⟩ | with_reducible refine ⟨_, cmp_eqI, ?_⟩ | with_reducible refine ⟨_, cmp_neI, ?_⟩ | with_reducible refine ⟨_, truth_bool, ?_⟩ | with_reducible refine ⟨_, ix_pr0, ?_⟩ | with_reducible refine ⟨_, ix_pr1, ?_⟩ | with_reducible refine ⟨_, ix_book, ?_⟩ | with_reducible refine ⟨kind_new, ?_⟩ | with_reducible refine ⟨rfl, ?_⟩ | (with_reducible refine ex_id ?_; refine ⟨_, rfl, ?_⟩) | (with_reducible refine w_len ?_; refine ⟨_, rfl, ?_⟩) | (with_reducible refine w_mkT ?_; refine ⟨_, _, rfl, ?_⟩) | (with_reducible refine w_mkL ?_; refine ⟨_, _, rfl, ?_⟩))
      obtain ⟨v, st3, e3, g3, z, hz, rfl⟩ := of_gr (k := k) (d := .list [.int 1, .int 5, .int 100000000000000000000]) (.inl rfl) (by simp) (by simp) gL
      refine w_eq e3 ?_
      obtain ⟨m, rfl, hm⟩ : ∃ m : Int, z = .int m ∧ (m = 1 ∨ m = 5 ∨ m = 100000000000000000000) := by
        simp only [List.mem_cons, List.not_mem_nil, or_false] at hz
        rcases hz with e | e | e
        · exact ⟨1, e, .inl rfl⟩
        · exact ⟨5, e, .inr (.inl rfl)⟩
        · exact ⟨_, e, .inr (.inr rfl)⟩
      repeat (first | (with_reducible refine w_loc ?_; refine ⟨_, rfl, ?_⟩) | (with_reducible refine w_glo ?_; refine ⟨_, rfl, ?_⟩) | with_reducible refine w_con ?_ | with_reducible refine w_set ?_ | with_reducible refine w_ret ?_ | with_reducible refine w_expr ?_ | with_reducible refine w_unp ?_ | with_reducible refine w_par ?_ | with_reducible refine w_ite ?_ | with_reducible refine w_nx ?_ | with_reducible refine w_rt ?_ | with_reducible refine w_nil ?_ | with_reducible refine w_tup ?_ | with_reducible refine w_lst ?_ | with_reducible refine w_bin ?_ | with_reducible refine w_neg ?_ | with_reducible refine w_not ?_ | with_reducible refine w_cmp ?_ | with_reducible refine w_and ?_ | with_reducible refine w_or ?_ | with_reducible refine w_iff ?_ | with_reducible refine w_isN ?_ | with_reducible refine w_isNN ?_ | with_reducible refine w_callC ?_ | with_reducible refine w_call ?_ | with_reducible refine w_bi ?_ | with_reducible refine w_mt ?_ | with_reducible refine w_idx ?_ | with_reducible refine w_slc ?_ | with_reducible refine w_on ?_ | with_reducible refine w_os ?_ | with_reducible refine w_rev ?_ | with_reducible refine w_sset ?_ | with_reducible refine w_lrng ?_ | with_reducible refine w_lc ?_ | with_reducible refine w_enil ?_ | with_reducible refine w_cons ?_ | with_reducible refine w_star ?_ | with_reducible refine w_ex ?_ | with_reducible refine w_rng1 ?_ | with_reducible refine w_rng2 ?_ | with_reducible refine w_enm ?_ | with_reducible refine w_sub ?_ | with_reducible refine w_dct0 ?_ | with_reducible refine w_isi ?_ | with_reducible refine w_cmp2 ?_ | with_reducible refine w_eq bin_add ?_ | with_reducible refine w_eq bi_lenP ?_ | with_reducible refine w_eq (bi_len len_tup) ?_ | with_reducible refine w_eq (bi_len len_lst) ?_ | with_reducible refine w_eq bin_sub ?_ | with_reducible refine w_eq (bin_fdiv (by decide) (by decide)) ?_ | with_reducible refine ⟨_, cmp_neB, ?_⟩ | with_reducible refine ⟨_, cmp_eqB, ?_⟩ | with_reducible refine ⟨_, cmp_neS, ?_⟩ | with_reducible refine ⟨_, cmp_eqS, ?_⟩ | with_reducible refine ⟨_, cmp_eqI, ?_⟩ | with_reducible refine ⟨_, cmp_neI, ?_⟩ | with_reducible refine ⟨_, truth_bool, ?_⟩ | with_reducible refine ⟨_, ix_pr0, ?_⟩ | with_reducible refine ⟨_, ix_pr1, ?_⟩ | with_reducible refine ⟨_, ix_book, ?_⟩ | with_reducible refine ⟨kind_new, ?_⟩ | with_reducible refine ⟨rfl, ?_⟩ | (with_reducible refine ex_id ?_; refine ⟨_, rfl, ?_⟩) | (with_reducible refine w_len ?_; refine ⟨_, rfl, ?_⟩) | (with_reducible refine w_mkT ?_; refine ⟨_, _, rfl, ?_⟩) | (with_reducible refine w_mkL ?_; refine ⟨_, _, rfl, ?_⟩))
      obtain ⟨v, st4, e4, g4, d, rfl, hd0, hd⟩ := pick_grB (k := k + 1) (many := m) (by omega) g3
      refine w_eq e4 ?_
      repeat (first | (with_reducible refine w_loc ?_; refine ⟨_, rfl, ?_⟩) | (with_reducible refine w_glo ?_; refine ⟨_, rfl, ?_⟩) | with_reducible refine w_con ?_ | with_reducible refine w_set ?_ | with_reducible refine w_ret ?_ | with_reducible refine w_expr ?_ | with_reducible refine w_unp ?_ | with_reducible refine w_par ?_ | with_reducible refine w_ite ?_ | with_reducible refine w_nx ?_ | with_reducible refine w_rt ?_ | with_reducible refine w_nil ?_ | with_reducible refine w_tup ?_ | with_reducible refine w_lst ?_ | with_reducible refine w_bin ?_ | with_reducible refine w_neg ?_ | with_reducible refine w_not ?_ | with_reducible refine w_cmp ?_ | with_reducible refine w_and ?_ | with_reducible refine w_or ?_ | with_reducible refine w_iff ?_ | with_reducible refine w_isN ?_ | with_reducible refine w_isNN ?_ | with_reducible refine w_callC ?_ | with_reducible refine w_call ?_ | with_reducible refine w_bi ?_ | with_reducible refine w_mt ?_ | with_reducible refine w_idx ?_ | with_reducible refine w_slc ?_ | with_reducible refine w_on ?_ | with_reducible refine w_os ?_ | with_reducible refine w_rev ?_ | with_reducible refine w_sset ?_ | with_reducible refine w_lrng ?_ | with_reducible refine w_lc ?_ | with_reducible refine w_enil ?_ | with_reducible refine w_cons ?_ | with_reducible refine w_star ?_ | with_reducible refine w_ex ?_ | with_reducible refine w_rng1 ?_ | with_reducible refine w_rng2 ?_ | with_reducible refine w_enm ?_ | with_reducible refine w_sub ?_ | with_reducible refine w_dct0 ?_ | with_reducible refine w_isi ?_ | with_reducible refine w_cmp2 ?_ | with_reducible refine w_eq bin_add ?_ | with_reducible refine w_eq bi_lenP ?_ | with_reducible refine w_eq (bi_len len_tup) ?_ | with_reducible refine w_eq (bi_len len_lst) ?_ | with_reducible refine w_eq bin_sub ?_ | with_reducible refine w_eq (bin_fdiv (by decide) (by decide)) ?_ | with_reducible refine ⟨_, cmp_neB, ?_⟩ | with_reducible refine ⟨_, cmp_eqB, ?_⟩ | with_reducible refine ⟨_, cmp_neS, ?_⟩ | with_reducible refine ⟨_, cmp_eqS, ?_⟩ | with_reducible refine ⟨_, cmp_eqI, ?_⟩ | with_reducible refine ⟨_, cmp_neI, ?_⟩ | with_reducible refine ⟨_, truth_bool, ?_⟩ | with_reducible refine ⟨_, ix_pr0, ?_⟩ | with_reducible refine ⟨_, ix_pr1, ?_⟩ | with_reducible refine ⟨_, ix_book, ?_⟩ | with_reducible refine ⟨kind_new, ?_⟩ | with_reducible refine ⟨rfl, ?_⟩ | (with_reducible refine ex_id ?_; refine ⟨_, rfl, ?_⟩) | (with_reducible refine w_len ?_; refine ⟨_, rfl, ?_⟩) | (with_reducible refine w_mkT ?_; refine ⟨_, _, rfl, ?_⟩) | (with_reducible refine w_mkL ?_; refine ⟨_, _, rfl, ?_⟩))
      have hnew : (here + 1 + d).natAbs ≤ here.natAbs + 10 ^ 22 := by omega
      have hsub : subV (.ref (3 + R.length)) (.d (.int y)) (.d (.int (here + 1 + d))) st4 = some (st4.set (3 + R.length) (.dK (putK (.inl y) (.d (.int (here + 1 + d))) kvs))) := by
        simp only [subV, g4.last, keyOf]
        rw [if_pos (show kvs.length < sizeLine by show _ < 16777216; omega)]
      refine ⟨_, hsub, ?_⟩
      repeat (first | (with_reducible refine w_loc ?_; refine ⟨_, rfl, ?_⟩) | (with_reducible refine w_glo ?_; refine ⟨_, rfl, ?_⟩) | with_reducible refine w_con ?_ | with_reducible refine w_set ?_ | with_reducible refine w_ret ?_ | with_reducible refine w_expr ?_ | with_reducible refine w_unp ?_ | with_reducible refine w_par ?_ | with_reducible refine w_ite ?_ | with_reducible refine w_nx ?_ | with_reducible refine w_rt ?_ | with_reducible refine w_nil ?_ | with_reducible refine w_tup ?_ | with_reducible refine w_lst ?_ | with_reducible refine w_bin ?_ | with_reducible refine w_neg ?_ | with_reducible refine w_not ?_ | with_reducible refine w_cmp ?_ | with_reducible refine w_and ?_ | with_reducible refine w_or ?_ | with_reducible refine w_iff ?_ | with_reducible refine w_isN ?_ | with_reducible refine w_isNN ?_ | with_reducible refine w_callC ?_ | with_reducible refine w_call ?_ | with_reducible refine w_bi ?_ | with_reducible refine w_mt ?_ | with_reducible refine w_idx ?_ | with_reducible refine w_slc ?_ | with_reducible refine w_on ?_ | with_reducible refine w_os ?_ | with_reducible refine w_rev ?_ | with_reducible refine w_sset ?_ | with_reducible refine w_lrng ?_ | with_reducible refine w_lc ?_ | with_reducible refine w_enil ?_ | with_reducible refine w_cons ?_ | with_reducible refine w_star ?_ | with_reducible refine w_ex ?_ | with_reducible refine w_rng1 ?_ | with_reducible refine w_rng2 ?_ | with_reducible refine w_enm ?_ | with_reducible refine w_sub ?_ | with_reducible refine w_dct0 ?_ | with_reducible refine w_isi ?_ | with_reducible refine w_cmp2 ?_ | with_reducible refine w_eq bin_add ?_ | with_reducible refine w_eq bi_lenP ?_ | with_reducible refine w_eq (bi_len len_tup) ?_ | with_reducible refine w_eq (bi_len len_lst) ?_ | with_reducible refine w_eq bin_sub ?_ | with_reducible refine w_eq (bin_fdiv (by decide) (by decide)) ?_ | with_reducible refine ⟨_, cmp_neB, ?_⟩ | with_reducible refine ⟨_, cmp_eqB, ?_⟩ | with_reducible refine ⟨_, cmp_neS, ?_⟩ | with_reducible refine ⟨_, cmp_eqS, ?_⟩ | with_reducible refine ⟨_, cmp_eqI, ?_⟩ | with_reducible refine ⟨_, cmp_neI, ?_⟩ | with_reducible refine ⟨_, truth_bool, ?_⟩ | with_reducible refine ⟨_, ix_pr0, ?_⟩ | with_reducible refine ⟨_, ix_pr1, ?_⟩ | with_reducible refine ⟨_, ix_book, ?_⟩ | with_reducible refine ⟨kind_new, ?_⟩ | with_reducible refine ⟨rfl, ?_⟩ | (with_reducible refine ex_id ?_; refine ⟨_, rfl, ?_⟩) | (with_reducible refine w_len ?_; refine ⟨_, rfl, ?_⟩) | (with_reducible refine w_mkT ?_; refine ⟨_, _, rfl, ?_⟩) | (with_reducible refine w_mkL ?_; refine ⟨_, _, rfl, ?_⟩))
      have hkl := putK_le (q := .inl y) (v := .d (.int (here + 1 + d))) (kvs := kvs)
      simp only [List.length_cons] at hh hk
      refine ⟨L, here + 1 + d, _, _, rfl, g4.set_last _, rfl, by omega, by omega, fun x hx => ?_⟩
      rcases hv x hx with h1 | ⟨i, h1, h2⟩
      · rcases List.mem_cons.mp h1 with e | e
        · refine .inr ⟨here + 1 + d, ?_, by omega⟩
          rw [valK_put, e, if_pos rfl]
        · exact .inl e
      · refine .inr ?_
        rw [valK_put]
        by_cases e : (.inl y : Key) = .inl x
        · rw [if_pos e]
          exact ⟨_, rfl, by omega⟩
        · rw [if_neg e]
          exact ⟨i, h1, h2⟩
  · subst he
    cases L with
    | cons y L => cases ez
    | nil =>
      have hv : ∀ x ∈ ps, ∃ i : Int, valK (.inl x) kvs = some (iv i) ∧ i.natAbs ≤ 10 ^ 25 := fun x hx => by
        rcases hv x (ssetI_mem.mpr hx) with e | e
        · cases e
        · exact e
      obtain ⟨gf, hgf⟩ : ∃ gf : Int → Int, ∀ x ∈ ps, valK (.inl x) kvs = some (iv (gf x)) ∧ (gf x).natAbs ≤ 10 ^ 25 := by
        refine ⟨lkI kvs, fun x hx => ?_⟩
        obtain ⟨i, e1, e2⟩ := hv x hx
        rw [lkI_of e1]
        exact ⟨e1, e2⟩
      repeat (first | (with_reducible refine w_loc ?_; refine ⟨_, rfl, ?_⟩) | (with_reducible refine w_glo ?_; refine ⟨_, rfl, ?_⟩) | with_reducible refine w_con ?_ | with_reducible refine w_set ?_ | with_reducible refine w_ret ?_ | with_reducible refine w_expr ?_ | with_reducible refine w_unp ?_ | with_reducible refine w_par ?_ | with_reducible refine w_ite ?_ | with_reducible refine w_nx ?_ | with_reducible refine w_rt ?_ | with_reducible refine w_nil ?_ | with_reducible refine w_tup ?_ | with_reducible refine w_lst ?_ | with_reducible refine w_bin ?_ | with_reducible refine w_neg ?_ | with_reducible refine w_not ?_ | with_reducible refine w_cmp ?_ | with_reducible refine w_and ?_ | with_reducible refine w_or ?_ | with_reducible refine w_iff ?_ | with_reducible refine w_isN ?_ | with_reducible refine w_isNN ?_ | with_reducible refine w_callC ?_ | with_reducible refine w_call ?_ | with_reducible refine w_bi ?_ | with_reducible refine w_mt ?_ | with_reducible refine w_idx ?_ | with_reducible refine w_slc ?_ | with_reducible refine w_on ?_ | with_reducible refine w_os ?_ | with_reducible refine w_rev ?_ | with_reducible refine w_sset ?_ | with_reducible refine w_lrng ?_ | with_reducible refine w_lc ?_ | with_reducible refine w_enil ?_ | with_reducible refine w_cons ?_ | with_reducible refine w_star ?_ | with_reducible refine w_ex ?_ | with_reducible refine w_rng1 ?_ | with_reducible refine w_rng2 ?_ | with_reducible refine w_enm ?_ | with_reducible refine w_sub ?_ | with_reducible refine w_dct0 ?_ | with_reducible refine w_isi ?_ | with_reducible refine w_cmp2 ?_ | with_reducible refine w_eq bin_add ?_ | with_reducible refine w_eq bi_lenP ?_ | with_reducible refine w_eq (bi_len len_tup) ?_ | with_reducible refine w_eq (bi_len len_lst) ?_ | with_reducible refine w_eq bin_sub ?_ | with_reducible refine w_eq (bin_fdiv (by decide) (by decide)) ?_ | with_reducible refine ⟨_, cmp_neB, ?_⟩ | with_reducible refine ⟨_, cmp_eqB, ?_⟩ | with_reducible refine ⟨_, cmp_neS, ?_⟩ | with_reducible refine ⟨_, cmp_eqS, ?_⟩ | with_reducible refine ⟨_, cmp_eqI, ?_⟩ | with_reducible refine ⟨_, cmp_neI, ?_⟩ | with_reducible refine ⟨_, truth_bool, ?_⟩ | with_reducible refine ⟨_, ix_pr0, ?_⟩ | with_reducible refine ⟨_, ix_pr1, ?_⟩ | with_reducible refine ⟨_, ix_book, ?_⟩ | with_reducible refine ⟨kind_new, ?_⟩ | with_reducible refine ⟨rfl, ?_⟩ | (with_reducible refine ex_id ?_; refine ⟨_, rfl, ?_⟩) | (with_reducible refine w_len ?_; refine ⟨_, rfl, ?_⟩) | (with_reducible refine w_mkT ?_; refine ⟨_, _, rfl, ?_⟩) | (with_reducible refine w_mkL ?_; refine ⟨_, _, rfl, ?_⟩))
      refine w_eq (mapS_map2 (enc := PyData.int) (enc2 := PyData.int) (zs := ps) (h := gf) fun x hx => w_is (w_lcF rfl ?_)) ?_
      · repeat (first | (with_reducible refine w_loc ?_; refine ⟨_, rfl, ?_⟩) | (with_reducible refine w_glo ?_; refine ⟨_, rfl, ?_⟩) | with_reducible refine w_con ?_ | with_reducible refine w_set ?_ | with_reducible refine w_ret ?_ | with_reducible refine w_expr ?_ | with_reducible refine w_unp ?_ | with_reducible refine w_par ?_ | with_reducible refine w_ite ?_ | with_reducible refine w_nx ?_ | with_reducible refine w_rt ?_ | with_reducible refine w_nil ?_ | with_reducible refine w_tup ?_ | with_reducible refine w_lst ?_ | with_reducible refine w_bin ?_ | with_reducible refine w_neg ?_ | with_reducible refine w_not ?_ | with_reducible refine w_cmp ?_ | with_reducible refine w_and ?_ | with_reducible refine w_or ?_ | with_reducible refine w_iff ?_ | with_reducible refine w_isN ?_ | with_reducible refine w_isNN ?_ | with_reducible refine w_callC ?_ | with_reducible refine w_call ?_ | with_reducible refine w_bi ?_ | with_reducible refine w_mt ?_ | with_reducible refine w_idx ?_ | with_reducible refine w_slc ?_ | with_reducible refine w_on ?_ | with_reducible refine w_os ?_ | with_reducible refine w_rev ?_ | with_reducible refine w_sset ?_ | with_reducible refine w_lrng ?_ | with_reducible refine w_lc ?_ | with_reducible refine w_enil ?_ | with_reducible refine w_cons ?_ | with_reducible refine w_star ?_ | with_reducible refine w_ex ?_ | with_reducible refine w_rng1 ?_ | with_reducible refine w_rng2 ?_ | with_reducible refine w_enm ?_ | with_reducible refine w_sub ?_ | with_reducible refine w_dct0 ?_ | with_reducible refine w_isi ?_ | with_reducible refine w_cmp2 ?_ | with_reducible refine w_eq bin_add ?_ | with_reducible refine w_eq bi_lenP ?_ | with_reducible refine w_eq (bi_len len_tup) ?_ | with_reducible refine w_eq (bi_len len_lst) ?_ | with_reducible refine w_eq bin_sub ?_ | with_reducible refine w_eq (bin_fdiv (by decide) (by decide)) ?_ | with_reducible refine ⟨_, cmp_neB, ?_⟩ | with_reducible refine ⟨_, cmp_eqB, ?_⟩ | with_reducible refine ⟨_, cmp_neS, ?_⟩ | with_reducible refine ⟨_, cmp_eqS, ?_⟩ | with_reducible refine ⟨_, cmp_eqI, ?_⟩ | with_reducible refine ⟨_, cmp_neI, ?_⟩ | with_reducible refine ⟨_, truth_bool, ?_⟩ | with_reducible refine ⟨_, ix_pr0, ?_⟩ | with_reducible refine ⟨_, ix_pr1, ?_⟩ | with_reducible refine ⟨_, ix_book, ?_⟩ | with_reducible refine ⟨kind_new, ?_⟩ | with_reducible refine ⟨rfl, ?_⟩ | (with_reducible refine ex_id ?_; refine ⟨_, rfl, ?_⟩) | (with_reducible refine w_len ?_; refine ⟨_, rfl, ?_⟩) | (with_reducible refine w_mkT ?_; refine ⟨_, _, rfl, ?_⟩) | (with_reducible refine w_mkL ?_; refine ⟨_, _, rfl, ?_⟩))
        refine ⟨_, (show idxV (.ref (3 + R.length)) (.d (.int x)) st = some (iv (gf x)) from ?_), ?_⟩
        · simp only [idxV, seqOf, lsOf, gL.last, (hgf x hx).1]
        first | rfl | exact ⟨rfl, rfl⟩ | exact ⟨_, rfl, rfl, rfl⟩ | exact ⟨_, rfl, rfl⟩
      refine w_eq (mkL_d (by rw [List.length_map, List.length_map]; omega)) ?_
      repeat (first | (with_reducible refine w_loc ?_; refine ⟨_, rfl, ?_⟩) | (with_reducible refine w_glo ?_; refine ⟨_, rfl, ?_⟩) | with_reducible refine w_con ?_ | with_reducible refine w_set ?_ | with_reducible refine w_ret ?_ | with_reducible refine w_expr ?_ | with_reducible refine w_unp ?_ | with_reducible refine w_par ?_ | with_reducible refine w_ite ?_ | with_reducible refine w_nx ?_ | with_reducible refine w_rt ?_ | with_reducible refine w_nil ?_ | with_reducible refine w_tup ?_ | with_reducible refine w_lst ?_ | with_reducible refine w_bin ?_ | with_reducible refine w_neg ?_ | with_reducible refine w_not ?_ | with_reducible refine w_cmp ?_ | with_reducible refine w_and ?_ | with_reducible refine w_or ?_ | with_reducible refine w_iff ?_ | with_reducible refine w_isN ?_ | with_reducible refine w_isNN ?_ | with_reducible refine w_callC ?_ | with_reducible refine w_call ?_ | with_reducible refine w_bi ?_ | with_reducible refine w_mt ?_ | with_reducible refine w_idx ?_ | with_reducible refine w_slc ?_ | with_reducible refine w_on ?_ | with_reducible refine w_os ?_ | with_reducible refine w_rev ?_ | with_reducible refine w_sset ?_ | with_reducible refine w_lrng ?_ | with_reducible refine w_lc ?_ | with_reducible refine w_enil ?_ | with_reducible refine w_cons ?_ | with_reducible refine w_star ?_ | with_reducible refine w_ex ?_ | with_reducible refine w_rng1 ?_ | with_reducible refine w_rng2 ?_ | with_reducible refine w_enm ?_ | with_reducible refine w_sub ?_ | with_reducible refine w_dct0 ?_ | with_reducible refine w_isi ?_ | with_reducible refine w_cmp2 ?_ | with_reducible refine w_eq bin_add ?_ | with_reducible refine w_eq bi_lenP ?_ | with_reducible refine w_eq (bi_len len_tup) ?_ | with_reducible refine w_eq (bi_len len_lst) ?_ | with_reducible refine w_eq bin_sub ?_ | with_reducible refine w_eq (bin_fdiv (by decide) (by decide)) ?_ | with_reducible refine ⟨_, cmp_neB, ?_⟩ | with_reducible refine ⟨_, cmp_eqB, ?_⟩ | with_reducible refine ⟨_, cmp_neS, ?_⟩ | with_reducible refine ⟨_, cmp_eqS, ?_⟩ | with_reducible refine ⟨_, cmp_eqI, ?_⟩ | with_reducible refine ⟨_, cmp_neI, ?_⟩ | with_reducible refine ⟨_, truth_bool, ?_⟩ | with_reducible refine ⟨_, ix_pr0, ?_⟩ | with_reducible refine ⟨_, ix_pr1, ?_⟩ | with_reducible refine ⟨_, ix_book, ?_⟩ | with_reducible refine ⟨kind_new, ?_⟩ | with_reducible refine ⟨rfl, ?_⟩ | (with_reducible refine ex_id ?_; refine ⟨_, rfl, ?_⟩) | (with_reducible refine w_len ?_; refine ⟨_, rfl, ?_⟩) | (with_reducible refine w_mkT ?_; refine ⟨_, _, rfl, ?_⟩) | (with_reducible refine w_mkL ?_; refine ⟨_, _, rfl, ?_⟩))
      refine w_eq (bi_tuple (by rw [List.length_map, List.length_map]; omega)) ?_
      repeat (first | (with_reducible refine w_loc ?_; refine ⟨_, rfl, ?_⟩) | (with_reducible refine w_glo ?_; refine ⟨_, rfl, ?_⟩) | with_reducible refine w_con ?_ | with_reducible refine w_set ?_ | with_reducible refine w_ret ?_ | with_reducible refine w_expr ?_ | with_reducible refine w_unp ?_ | with_reducible refine w_par ?_ | with_reducible refine w_ite ?_ | with_reducible refine w_nx ?_ | with_reducible refine w_rt ?_ | with_reducible refine w_nil ?_ | with_reducible refine w_tup ?_ | with_reducible refine w_lst ?_ | with_reducible refine w_bin ?_ | with_reducible refine w_neg ?_ | with_reducible refine w_not ?_ | with_reducible refine w_cmp ?_ | with_reducible refine w_and ?_ | with_reducible refine w_or ?_ | with_reducible refine w_iff ?_ | with_reducible refine w_isN ?_ | with_reducible refine w_isNN ?_ | with_reducible refine w_callC ?_ | with_reducible refine w_call ?_ | with_reducible refine w_bi ?_ | with_reducible refine w_mt ?_ | with_reducible refine w_idx ?_ | with_reducible refine w_slc ?_ | with_reducible refine w_on ?_ | with_reducible refine w_os ?_ | with_reducible refine w_rev ?_ | with_reducible refine w_sset ?_ | with_reducible refine w_lrng ?_ | with_reducible refine w_lc ?_ | with_reducible refine w_enil ?_ | with_reducible refine w_cons ?_ | with_reducible refine w_star ?_ | with_reducible refine w_ex ?_ | with_reducible refine w_rng1 ?_ | with_reducible refine w_rng2 ?_ | with_reducible refine w_enm ?_ | with_reducible refine w_sub ?_ | with_reducible refine w_dct0 ?_ | with_reducible refine w_isi ?_ | with_reducible refine w_cmp2 ?_ | with_reducible refine w_eq bin_add ?_ | with_reducible refine w_eq bi_lenP ?_ | with_reducible refine w_eq (bi_len len_tup) ?_ | with_reducible refine w_eq (bi_len len_lst) ?_ | with_reducible refine w_eq bin_sub ?_ | with_reducible refine w_eq (bin_fdiv (by decide) (by decide)) ?_ | with_reducible refine ⟨_, cmp_neB, ?_⟩ | with_reducible refine ⟨_, cmp_eqB, ?_⟩ | with_reducible refine ⟨_, cmp_neS, ?_⟩ | with_reducible refine ⟨_, cmp_eqS, ?_⟩ | with_reducible refine ⟨_, cmp_eqI, ?_⟩ | with_reducible refine ⟨_, cmp_neI, ?_⟩ | with_reducible refine ⟨_, truth_bool, ?_⟩ | with_reducible refine ⟨_, ix_pr0, ?_⟩ | with_reducible refine ⟨_, ix_pr1, ?_⟩ | with_reducible refine ⟨_, ix_book, ?_⟩ | with_reducible refine ⟨kind_new, ?_⟩ | with_reducible refine ⟨rfl, ?_⟩ | (with_reducible refine ex_id ?_; refine ⟨_, rfl, ?_⟩) | (with_reducible refine w_len ?_; refine ⟨_, rfl, ?_⟩) | (with_reducible refine w_mkT ?_; refine ⟨_, _, rfl, ?_⟩) | (with_reducible refine w_mkL ?_; refine ⟨_, _, rfl, ?_⟩))
      refine ⟨back _ gL.cut, ps.map gf, rfl, List.length_map _, fun x hx => ?_⟩
      obtain ⟨y, hy, rfl⟩ := List.mem_map.mp hx
      exact (hgf y hy).2
theorem Sm.mono {b c : Nat} {ps : List Int} (h : b ≤ c) (hs : Sm b ps) : Sm c ps := fun x hx => Nat.le_trans (hs x hx) h
theorem issay_run {k : Nat} {st : Sto} {n u v : Int} (hu0 : 0 ≤ u) (hu : u < n) (hv0 : 0 ≤ v) (hv : v < n) (huv : u ≠ v) (hn : n ≤ 1000) : calls gdefs gglo (k + 1) 62 [.d (.int n), .d (encS ⟨[], some (u, v)⟩)] st = .ok (.d (.bool true)) st := by
  rw [calls_run gd62]
  refine w_is (w_pure (ds := [.int n, encS ⟨[], some (u, v)⟩]) rfl rfl ?_)
  show Ok (evSs _ b62 [some (iv n), some (.d (encS ⟨[], some (u, v)⟩)), none, none, none, none, none, none] []) _
  unfold b62
  repeat (first | (with_reducible refine w_loc ?_; refine ⟨_, rfl, ?_⟩) | (with_reducible refine w_glo ?_; refine ⟨_, rfl, ?_⟩) | with_reducible refine w_con ?_ | with_reducible refine w_set ?_ | with_reducible refine w_ret ?_ | with_reducible refine w_expr ?_ | with_reducible refine w_unp ?_ | with_reducible refine w_par ?_ | with_reducible refine w_ite ?_ | with_reducible refine w_nx ?_ | with_reducible refine w_rt ?_ | with_reducible refine w_nil ?_ | with_reducible refine w_tup ?_ | with_reducible refine w_lst ?_ | with_reducible refine w_bin ?_ | with_reducible refine w_neg ?_ | with_reducible refine w_not ?_ | with_reducible refine w_cmp ?_ | with_reducible refine w_and ?_ | with_reducible refine w_or ?_ | with_reducible refine w_iff ?_ | with_reducible refine w_isN ?_ | with_reducible refine w_isNN ?_ | with_reducible refine w_callC ?_ | with_reducible refine w_call ?_ | with_reducible refine w_bi ?_ | with_reducible refine w_mt ?_ | with_reducible refine w_idx ?_ | with_reducible refine w_slc ?_ | with_reducible refine w_on ?_ | with_reducible refine w_os ?_ | with_reducible refine w_rev ?_ | with_reducible refine w_sset ?_ | with_reducible refine w_lrng ?_ | with_reducible refine w_lc ?_ | with_reducible refine w_enil ?_ | with_reducible refine w_cons ?_ | with_reducible refine w_star ?_ | with_reducible refine w_ex ?_ | with_reducible refine w_rng1 ?_ | with_reducible refine w_rng2 ?_ | with_reducible refine w_enm ?_ | with_reducible refine w_sub ?_ | with_reducible refine w_dct0 ?_ | with_reducible refine w_isi ?_ | with_reducible refine w_cmp2 ?_ | with_reducible refine w_eq bin_add ?_ | with_reducible refine w_eq bi_lenP ?_ | with_reducible refine w_eq (bi_len len_tup) ?_ | with_reducible refine w_eq (bi_len len_lst) ?_ | with_reducible refine w_eq bin_sub ?_ | with_reducible refine w_eq (bin_fdiv (by decide) (by decide)) ?_ | with_reducible refine ⟨_, cmp_neB, ?_⟩ | with_reducible refine ⟨_, cmp_eqB, ?_⟩ | with_reducible refine ⟨_, cmp_neS, ?_⟩ | with_reducible refine ⟨_, cmp_eqS, ?_⟩ | with_reducible refine ⟨_, cmp_eqI, ?_⟩ | with_reducible refine ⟨_, cmp_neI, ?_⟩ | with_reducible refine ⟨_, truth_bool, ?_⟩ | with_reducible refine ⟨_, ix_pr0, ?_⟩ | with_reducible refine ⟨_, ix_pr1, ?_⟩ | with_reducible refine ⟨_, ix_book, ?_⟩ | with_reducible refine ⟨kind_new, ?_⟩ | with_reducible refine ⟨rfl, ?_⟩ | (with_reducible refine ex_id ?_; refine ⟨_, rfl, ?_⟩) | (with_reducible refine w_len ?_; refine ⟨_, rfl, ?_⟩) | (with_reducible refine w_mkT ?_; refine ⟨_, _, rfl, ?_⟩) | (with_reducible refine w_mkL ?_; refine ⟨_, _, rfl, ?_⟩) | refine conj_f rfl ?_ | refine conj_t rfl ?_)
  refine w_eq (a := .d (.list [])) rfl ?_
  repeat (first | (with_reducible refine w_loc ?_; refine ⟨_, rfl, ?_⟩) | (with_reducible refine w_glo ?_; refine ⟨_, rfl, ?_⟩) | with_reducible refine w_con ?_ | with_reducible refine w_set ?_ | with_reducible refine w_ret ?_ | with_reducible refine w_expr ?_ | with_reducible refine w_unp ?_ | with_reducible refine w_par ?_ | with_reducible refine w_ite ?_ | with_reducible refine w_nx ?_ | with_reducible refine w_rt ?_ | with_reducible refine w_nil ?_ | with_reducible refine w_tup ?_ | with_reducible refine w_lst ?_ | with_reducible refine w_bin ?_ | with_reducible refine w_neg ?_ | with_reducible refine w_not ?_ | with_reducible refine w_cmp ?_ | with_reducible refine w_and ?_ | with_reducible refine w_or ?_ | with_reducible refine w_iff ?_ | with_reducible refine w_isN ?_ | with_reducible refine w_isNN ?_ | with_reducible refine w_callC ?_ | with_reducible refine w_call ?_ | with_reducible refine w_bi ?_ | with_reducible refine w_mt ?_ | with_reducible refine w_idx ?_ | with_reducible refine w_slc ?_ | with_reducible refine w_on ?_ | with_reducible refine w_os ?_ | with_reducible refine w_rev ?_ | with_reducible refine w_sset ?_ | with_reducible refine w_lrng ?_ | with_reducible refine w_lc ?_ | with_reducible refine w_enil ?_ | with_reducible refine w_cons ?_ | with_reducible refine w_star ?_ | with_reducible refine w_ex ?_ | with_reducible refine w_rng1 ?_ | with_reducible refine w_rng2 ?_ | with_reducible refine w_enm ?_ | with_reducible refine w_sub ?_ | with_reducible refine w_dct0 ?_ | with_reducible refine w_isi ?_ | with_reducible refine w_cmp2 ?_ | with_reducible refine w_eq bin_add ?_ | with_reducible refine w_eq bi_lenP ?_ | with_reducible refine w_eq (bi_len len_tup) ?_ | with_reducible refine w_eq (bi_len len_lst) ?_ | with_reducible refine w_eq bin_sub ?_ | with_reducible refine w_eq (bin_fdiv (by decide) (by decide)) ?_ | with_reducible refine ⟨_, cmp_neB, ?_⟩ | with_reducible refine ⟨_, cmp_eqB, ?_⟩ | with_reducible refine ⟨_, cmp_neS, ?_⟩ | with_reducible refine ⟨_, cmp_eqS, ?_⟩ | with_reducible refine ⟨_, cmp_eqI, ?_⟩ | with_reducible refine ⟨_, cmp_neI, ?_⟩ | with_reducible refine ⟨_, truth_bool, ?_⟩ | with_reducible refine ⟨_, ix_pr0, ?_⟩ | with_reducible refine ⟨_, ix_pr1, ?_⟩ | with_reducible refine ⟨_, ix_book, ?_⟩ | with_reducible refine ⟨kind_new, ?_⟩ | with_reducible refine ⟨rfl, ?_⟩ | (with_reducible refine ex_id ?_; refine ⟨_, rfl, ?_⟩) | (with_reducible refine w_len ?_; refine ⟨_, rfl, ?_⟩) | (with_reducible refine w_mkT ?_; refine ⟨_, _, rfl, ?_⟩) | (with_reducible refine w_mkL ?_; refine ⟨_, _, rfl, ?_⟩) | refine conj_f rfl ?_ | refine conj_t rfl ?_)
  refine w_eq (a := .d (.list [pr (u, v)])) rfl ?_
  repeat (first | (with_reducible refine w_loc ?_; refine ⟨_, rfl, ?_⟩) | (with_reducible refine w_glo ?_; refine ⟨_, rfl, ?_⟩) | with_reducible refine w_con ?_ | with_reducible refine w_set ?_ | with_reducible refine w_ret ?_ | with_reducible refine w_expr ?_ | with_reducible refine w_unp ?_ | with_reducible refine w_par ?_ | with_reducible refine w_ite ?_ | with_reducible refine w_nx ?_ | with_reducible refine w_rt ?_ | with_reducible refine w_nil ?_ | with_reducible refine w_tup ?_ | with_reducible refine w_lst ?_ | with_reducible refine w_bin ?_ | with_reducible refine w_neg ?_ | with_reducible refine w_not ?_ | with_reducible refine w_cmp ?_ | with_reducible refine w_and ?_ | with_reducible refine w_or ?_ | with_reducible refine w_iff ?_ | with_reducible refine w_isN ?_ | with_reducible refine w_isNN ?_ | with_reducible refine w_callC ?_ | with_reducible refine w_call ?_ | with_reducible refine w_bi ?_ | with_reducible refine w_mt ?_ | with_reducible refine w_idx ?_ | with_reducible refine w_slc ?_ | with_reducible refine w_on ?_ | with_reducible refine w_os ?_ | with_reducible refine w_rev ?_ | with_reducible refine w_sset ?_ | with_reducible refine w_lrng ?_ | with_reducible refine w_lc ?_ | with_reducible refine w_enil ?_ | with_reducible refine w_cons ?_ | with_reducible refine w_star ?_ | with_reducible refine w_ex ?_ | with_reducible refine w_rng1 ?_ | with_reducible refine w_rng2 ?_ | with_reducible refine w_enm ?_ | with_reducible refine w_sub ?_ | with_reducible refine w_dct0 ?_ | with_reducible refine w_isi ?_ | with_reducible refine w_cmp2 ?_ | with_reducible refine w_eq bin_add ?_ | with_reducible refine w_eq bi_lenP ?_ | with_reducible refine w_eq (bi_len len_tup) ?_ | with_reducible refine w_eq (bi_len len_lst) ?_ | with_reducible refine w_eq bin_sub ?_ | with_reducible refine w_eq (bin_fdiv (by decide) (by decide)) ?_ | with_reducible refine ⟨_, cmp_neB, ?_⟩ | with_reducible refine ⟨_, cmp_eqB, ?_⟩ | with_reducible refine ⟨_, cmp_neS, ?_⟩ | with_reducible refine ⟨_, cmp_eqS, ?_⟩ | with_reducible refine ⟨_, cmp_eqI, ?_⟩ | with_reducible refine ⟨_, cmp_neI, ?_⟩ | with_reducible refine ⟨_, truth_bool, ?_⟩ | with_reducible refine ⟨_, ix_pr0, ?_⟩ | with_reducible refine ⟨_, ix_pr1, ?_⟩ | with_reducible refine ⟨_, ix_book, ?_⟩ | with_reducible refine ⟨kind_new, ?_⟩ | with_reducible refine ⟨rfl, ?_⟩ | (with_reducible refine ex_id ?_; refine ⟨_, rfl, ?_⟩) | (with_reducible refine w_len ?_; refine ⟨_, rfl, ?_⟩) | (with_reducible refine w_mkT ?_; refine ⟨_, _, rfl, ?_⟩) | (with_reducible refine w_mkL ?_; refine ⟨_, _, rfl, ?_⟩) | refine conj_f rfl ?_ | refine conj_t rfl ?_)
  refine w_loop (fun zs en st => st = [] ∧ (∃ x3, en = [some (iv n), some (.d (encS ⟨[], some (u, v)⟩)), some (.d (.list [pr (u, v)])), x3, none, none, none, none]) ∧ (zs = [pr (u, v)] ∨ zs = [])) ?_ (fun z zs en st ⟨e0, ⟨x3, he⟩, ez⟩ => ?_) (fun en st ⟨e0, ⟨x3, he⟩, ez⟩ => ?_)
  · repeat (first | (with_reducible refine w_loc ?_; refine ⟨_, rfl, ?_⟩) | (with_reducible refine w_glo ?_; refine ⟨_, rfl, ?_⟩) | with_reducible refine w_con ?_ | with_reducible refine w_set ?_ | with_reducible refine w_ret ?_ | with_reducible refine w_expr ?_ | with_reducible refine w_unp ?_ | with_reducible refine w_par ?_ | with_reducible refine w_ite ?_ | with_reducible refine w_nx ?_ | with_reducible refine w_rt ?_ | with_reducible refine w_nil ?_ | with_reducible refine w_tup ?_ | with_reducible refine w_lst ?_ | with_reducible refine w_bin ?_ | with_reducible refine w_neg ?_ | with_reducible refine w_not ?_ | with_reducible refine w_cmp ?_ | with_reducible refine w_and ?_ | with_reducible refine w_or ?_ | with_reducible refine w_iff ?_ | with_reducible refine w_isN ?_ | with_reducible refine w_isNN ?_ | with_reducible refine w_callC ?_ | with_reducible refine w_call ?_ | with_reducible refine w_bi ?_ | with_reducible refine w_mt ?_ | with_reducible refine w_idx ?_ | with_reducible refine w_slc ?_ | with_reducible refine w_on ?_ | with_reducible refine w_os ?_ | with_reducible refine w_rev ?_ | with_reducible refine w_sset ?_ | with_reducible refine w_lrng ?_ | with_reducible refine w_lc ?_ | with_reducible refine w_enil ?_ | with_reducible refine w_cons ?_ | with_reducible refine w_star ?_ | with_reducible refine w_ex ?_ | with_reducible refine w_rng1 ?_ | with_reducible refine w_rng2 ?_ | with_reducible refine w_enm ?_ | with_reducible refine w_sub ?_ | with_reducible refine w_dct0 ?_ | with_reducible refine w_isi ?_ | with_reducible refine w_cmp2 ?_ | with_reducible refine w_eq bin_add ?_ | with_reducible refine w_eq bi_lenP ?_ | with_reducible refine w_eq (bi_len len_tup) ?_ | with_reducible refine w_eq (bi_len len_lst) ?_ | with_reducible refine w_eq bin_sub ?_ | with_reducible refine w_eq (bin_fdiv (by decide) (by decide)) ?_ | with_reducible refine ⟨_, cmp_neB, ?_⟩ | with_reducible refine ⟨_, cmp_eqB, ?_⟩ | with_reducible refine ⟨_, cmp_neS, ?_⟩ | with_reducible refine ⟨_, cmp_eqS, ?_⟩ | with_reducible refine ⟨_, cmp_eqI, ?_⟩ | with_reducible refine ⟨_, cmp_neI, ?_⟩ | with_reducible refine ⟨_, truth_bool, ?_⟩ | with_reducible refine ⟨_, ix_pr0, ?_⟩ | with_reducible refine ⟨_, ix_pr1, ?_⟩ | with_reducible refine ⟨_, ix_book, ?_⟩ | with_reducible refine ⟨kind_new, ?_⟩ | with_reducible refine ⟨rfl, ?_⟩ | (with_reducible refine ex_id ?_; refine ⟨_, rfl, ?_⟩) | (with_reducible refine w_len ?_; refine ⟨_, rfl, ?_⟩) | (with_reducible refine w_mkT ?_; refine ⟨_, _, rfl, ?_⟩) | (with_reducible refine w_mkL ?_; refine ⟨_, _, rfl, ?_⟩) | refine conj_f rfl ?_ | refine conj_t rfl ?_)
    exact ⟨⟨_, rfl⟩, .inl rfl⟩
  · rcases ez with ez | ez
    · cases ez
      subst e0 he
      refine ⟨_, rfl, ?_⟩
      repeat (first | (with_reducible refine w_loc ?_; refine ⟨_, rfl, ?_⟩) | (with_reducible refine w_glo ?_; refine ⟨_, rfl, ?_⟩) | with_reducible refine w_con ?_ | with_reducible refine w_set ?_ | with_reducible refine w_ret ?_ | with_reducible refine w_expr ?_ | with_reducible refine w_unp ?_ | with_reducible refine w_par ?_ | with_reducible refine w_ite ?_ | with_reducible refine w_nx ?_ | with_reducible refine w_rt ?_ | with_reducible refine w_nil ?_ | with_reducible refine w_tup ?_ | with_reducible refine w_lst ?_ | with_reducible refine w_bin ?_ | with_reducible refine w_neg ?_ | with_reducible refine w_not ?_ | with_reducible refine w_cmp ?_ | with_reducible refine w_and ?_ | with_reducible refine w_or ?_ | with_reducible refine w_iff ?_ | with_reducible refine w_isN ?_ | with_reducible refine w_isNN ?_ | with_reducible refine w_callC ?_ | with_reducible refine w_call ?_ | with_reducible refine w_bi ?_ | with_reducible refine w_mt ?_ | with_reducible refine w_idx ?_ | with_reducible refine w_slc ?_ | with_reducible refine w_on ?_ | with_reducible refine w_os ?_ | with_reducible refine w_rev ?_ | with_reducible refine w_sset ?_ | with_reducible refine w_lrng ?_ | with_reducible refine w_lc ?_ | with_reducible refine w_enil ?_ | with_reducible refine w_cons ?_ | with_reducible refine w_star ?_ | with_reducible refine w_ex ?_ | with_reducible refine w_rng1 ?_ | with_reducible refine w_rng2 ?_ | with_reducible refine w_enm ?_ | with_reducible refine w_sub ?_ | with_reducible refine w_dct0 ?_ | with_reducible refine w_isi ?_ | with_reducible refine w_cmp2 ?_ | with_reducible refine w_eq bin_add ?_ | with_reducible refine w_eq bi_lenP ?_ | with_reducible refine w_eq (bi_len len_tup) ?_ | with_reducible refine w_eq (bi_len len_lst) ?_ | with_reducible refine w_eq bin_sub ?_ | with_reducible refine w_eq (bin_fdiv (by decide) (by decide)) ?_ | with_reducible refine ⟨_, cmp_neB, ?_⟩ | with_reducible refine ⟨_, cmp_eqB, ?_⟩ | with_reducible refine ⟨_, cmp_neS, ?_⟩ | with_reducible refine ⟨_, cmp_eqS, ?_⟩ | with_reducible refine ⟨_, cmp_eqI, ?_⟩ | with_reducible refine ⟨_, cmp_neI, ?_⟩ | with_reducible refine ⟨_, truth_bool, ?_⟩ | with_reducible refine ⟨_, ix_pr0, ?_⟩ | with_reducible refine ⟨_, ix_pr1, ?_⟩ | with_reducible refine ⟨_, ix_book, ?_⟩ | with_reducible refine ⟨kind_new, ?_⟩ | with_reducible refine ⟨rfl, ?_⟩ | (with_reducible refine ex_id ?_; refine ⟨_, rfl, ?_⟩) | (with_reducible refine w_len ?_; refine ⟨_, rfl, ?_⟩) | (with_reducible refine w_mkT ?_; refine ⟨_, _, rfl, ?_⟩) | (with_reducible refine w_mkL ?_; refine ⟨_, _, rfl, ?_⟩) | refine conj_f rfl ?_ | refine conj_t rfl ?_)
      refine conj_f (beq_eq_false_iff_ne.mpr huv) ?_
      repeat (first | (with_reducible refine w_loc ?_; refine ⟨_, rfl, ?_⟩) | (with_reducible refine w_glo ?_; refine ⟨_, rfl, ?_⟩) | with_reducible refine w_con ?_ | with_reducible refine w_set ?_ | with_reducible refine w_ret ?_ | with_reducible refine w_expr ?_ | with_reducible refine w_unp ?_ | with_reducible refine w_par ?_ | with_reducible refine w_ite ?_ | with_reducible refine w_nx ?_ | with_reducible refine w_rt ?_ | with_reducible refine w_nil ?_ | with_reducible refine w_tup ?_ | with_reducible refine w_lst ?_ | with_reducible refine w_bin ?_ | with_reducible refine w_neg ?_ | with_reducible refine w_not ?_ | with_reducible refine w_cmp ?_ | with_reducible refine w_and ?_ | with_reducible refine w_or ?_ | with_reducible refine w_iff ?_ | with_reducible refine w_isN ?_ | with_reducible refine w_isNN ?_ | with_reducible refine w_callC ?_ | with_reducible refine w_call ?_ | with_reducible refine w_bi ?_ | with_reducible refine w_mt ?_ | with_reducible refine w_idx ?_ | with_reducible refine w_slc ?_ | with_reducible refine w_on ?_ | with_reducible refine w_os ?_ | with_reducible refine w_rev ?_ | with_reducible refine w_sset ?_ | with_reducible refine w_lrng ?_ | with_reducible refine w_lc ?_ | with_reducible refine w_enil ?_ | with_reducible refine w_cons ?_ | with_reducible refine w_star ?_ | with_reducible refine w_ex ?_ | with_reducible refine w_rng1 ?_ | with_reducible refine w_rng2 ?_ | with_reducible refine w_enm ?_ | with_reducible refine w_sub ?_ | with_reducible refine w_dct0 ?_ | with_reducible refine w_isi ?_ | with_reducible refine w_cmp2 ?_ | with_reducible refine w_eq bin_add ?_ | with_reducible refine w_eq bi_lenP ?_ | with_reducible refine w_eq (bi_len len_tup) ?_ | with_reducible refine w_eq (bi_len len_lst) ?_ | with_reducible refine w_eq bin_sub ?_ | with_reducible refine w_eq (bin_fdiv (by decide) (by decide)) ?_ | with_reducible refine ⟨_, cmp_neB, ?_⟩ | with_reducible refine ⟨_, cmp_eqB, ?_⟩ | with_reducible refine ⟨_, cmp_neS, ?_⟩ | with_reducible refine ⟨_, cmp_eqS, ?_⟩ | with_reducible refine ⟨_, cmp_eqI, ?_⟩ | with_reducible refine ⟨_, cmp_neI, ?_⟩ | with_reducible refine ⟨_, truth_bool, ?_⟩ | with_reducible refine ⟨_, ix_pr0, ?_⟩ | with_reducible refine ⟨_, ix_pr1, ?_⟩ | with_reducible refine ⟨_, ix_book, ?_⟩ | with_reducible refine ⟨kind_new, ?_⟩ | with_reducible refine ⟨rfl, ?_⟩ | (with_reducible refine ex_id ?_; refine ⟨_, rfl, ?_⟩) | (with_reducible refine w_len ?_; refine ⟨_, rfl, ?_⟩) | (with_reducible refine w_mkT ?_; refine ⟨_, _, rfl, ?_⟩) | (with_reducible refine w_mkL ?_; refine ⟨_, _, rfl, ?_⟩) | refine conj_f rfl ?_ | refine conj_t rfl ?_)
      refine w_eq (mapS_filter (enc := PyData.int) (g := PyData.int) (p := fun _ => false) (zs := [u, v]) fun x hx => w_is (w_lcC rfl ?_)) ?_
      · have hx : 0 ≤ x ∧ x < n := by
          simp only [List.mem_cons, List.not_mem_nil, or_false] at hx
          rcases hx with e | e
          · omega
          · omega
        repeat (first | (with_reducible refine w_loc ?_; refine ⟨_, rfl, ?_⟩) | (with_reducible refine w_glo ?_; refine ⟨_, rfl, ?_⟩) | with_reducible refine w_con ?_ | with_reducible refine w_set ?_ | with_reducible refine w_ret ?_ | with_reducible refine w_expr ?_ | with_reducible refine w_unp ?_ | with_reducible refine w_par ?_ | with_reducible refine w_ite ?_ | with_reducible refine w_nx ?_ | with_reducible refine w_rt ?_ | with_reducible refine w_nil ?_ | with_reducible refine w_tup ?_ | with_reducible refine w_lst ?_ | with_reducible refine w_bin ?_ | with_reducible refine w_neg ?_ | with_reducible refine w_not ?_ | with_reducible refine w_cmp ?_ | with_reducible refine w_and ?_ | with_reducible refine w_or ?_ | with_reducible refine w_iff ?_ | with_reducible refine w_isN ?_ | with_reducible refine w_isNN ?_ | with_reducible refine w_callC ?_ | with_reducible refine w_call ?_ | with_reducible refine w_bi ?_ | with_reducible refine w_mt ?_ | with_reducible refine w_idx ?_ | with_reducible refine w_slc ?_ | with_reducible refine w_on ?_ | with_reducible refine w_os ?_ | with_reducible refine w_rev ?_ | with_reducible refine w_sset ?_ | with_reducible refine w_lrng ?_ | with_reducible refine w_lc ?_ | with_reducible refine w_enil ?_ | with_reducible refine w_cons ?_ | with_reducible refine w_star ?_ | with_reducible refine w_ex ?_ | with_reducible refine w_rng1 ?_ | with_reducible refine w_rng2 ?_ | with_reducible refine w_enm ?_ | with_reducible refine w_sub ?_ | with_reducible refine w_dct0 ?_ | with_reducible refine w_isi ?_ | with_reducible refine w_cmp2 ?_ | with_reducible refine w_eq bin_add ?_ | with_reducible refine w_eq bi_lenP ?_ | with_reducible refine w_eq (bi_len len_tup) ?_ | with_reducible refine w_eq (bi_len len_lst) ?_ | with_reducible refine w_eq bin_sub ?_ | with_reducible refine w_eq (bin_fdiv (by decide) (by decide)) ?_ | with_reducible refine ⟨_, cmp_neB, ?_⟩ | with_reducible refine ⟨_, cmp_eqB, ?_⟩ | with_reducible refine ⟨_, cmp_neS, ?_⟩ | with_reducible refine ⟨_, cmp_eqS, ?_⟩ | with_reducible refine ⟨_, cmp_eqI, ?_⟩ | with_reducible refine ⟨_, cmp_neI, ?_⟩ | with_reducible refine ⟨_, truth_bool, ?_⟩ | with_reducible refine ⟨_, ix_pr0, ?_⟩ | with_reducible refine ⟨_, ix_pr1, ?_⟩ | with_reducible refine ⟨_, ix_book, ?_⟩ | with_reducible refine ⟨kind_new, ?_⟩ | with_reducible refine ⟨rfl, ?_⟩ | (with_reducible refine ex_id ?_; refine ⟨_, rfl, ?_⟩) | (with_reducible refine w_len ?_; refine ⟨_, rfl, ?_⟩) | (with_reducible refine w_mkT ?_; refine ⟨_, _, rfl, ?_⟩) | (with_reducible refine w_mkL ?_; refine ⟨_, _, rfl, ?_⟩) | refine conj_f rfl ?_ | refine conj_t rfl ?_)
        refine conj_t (decide_eq_true hx.1) ?_
        repeat (first | (with_reducible refine w_loc ?_; refine ⟨_, rfl, ?_⟩) | (with_reducible refine w_glo ?_; refine ⟨_, rfl, ?_⟩) | with_reducible refine w_con ?_ | with_reducible refine w_set ?_ | with_reducible refine w_ret ?_ | with_reducible refine w_expr ?_ | with_reducible refine w_unp ?_ | with_reducible refine w_par ?_ | with_reducible refine w_ite ?_ | with_reducible refine w_nx ?_ | with_reducible refine w_rt ?_ | with_reducible refine w_nil ?_ | with_reducible refine w_tup ?_ | with_reducible refine w_lst ?_ | with_reducible refine w_bin ?_ | with_reducible refine w_neg ?_ | with_reducible refine w_not ?_ | with_reducible refine w_cmp ?_ | with_reducible refine w_and ?_ | with_reducible refine w_or ?_ | with_reducible refine w_iff ?_ | with_reducible refine w_isN ?_ | with_reducible refine w_isNN ?_ | with_reducible refine w_callC ?_ | with_reducible refine w_call ?_ | with_reducible refine w_bi ?_ | with_reducible refine w_mt ?_ | with_reducible refine w_idx ?_ | with_reducible refine w_slc ?_ | with_reducible refine w_on ?_ | with_reducible refine w_os ?_ | with_reducible refine w_rev ?_ | with_reducible refine w_sset ?_ | with_reducible refine w_lrng ?_ | with_reducible refine w_lc ?_ | with_reducible refine w_enil ?_ | with_reducible refine w_cons ?_ | with_reducible refine w_star ?_ | with_reducible refine w_ex ?_ | with_reducible refine w_rng1 ?_ | with_reducible refine w_rng2 ?_ | with_reducible refine w_enm ?_ | with_reducible refine w_sub ?_ | with_reducible refine w_dct0 ?_ | with_reducible refine w_isi ?_ | with_reducible refine w_cmp2 ?_ | with_reducible refine w_eq bin_add ?_ | with_reducible refine w_eq bi_lenP ?_ | with_reducible refine w_eq (bi_len len_tup) ?_ | with_reducible refine w_eq (bi_len len_lst) ?_ | with_reducible refine w_eq bin_sub ?_ | with_reducible refine w_eq (bin_fdiv (by decide) (by decide)) ?_ | with_reducible refine ⟨_, cmp_neB, ?_⟩ | with_reducible refine ⟨_, cmp_eqB, ?_⟩ | with_reducible refine ⟨_, cmp_neS, ?_⟩ | with_reducible refine ⟨_, cmp_eqS, ?_⟩ | with_reducible refine ⟨_, cmp_eqI, ?_⟩ | with_reducible refine ⟨_, cmp_neI, ?_⟩ | with_reducible refine ⟨_, truth_bool, ?_⟩ | with_reducible refine ⟨_, ix_pr0, ?_⟩ | with_reducible refine ⟨_, ix_pr1, ?_⟩ | with_reducible refine ⟨_, ix_book, ?_⟩ | with_reducible refine ⟨kind_new, ?_⟩ | with_reducible refine ⟨rfl, ?_⟩ | (with_reducible refine ex_id ?_; refine ⟨_, rfl, ?_⟩) | (with_reducible refine w_len ?_; refine ⟨_, rfl, ?_⟩) | (with_reducible refine w_mkT ?_; refine ⟨_, _, rfl, ?_⟩) | (with_reducible refine w_mkL ?_; refine ⟨_, _, rfl, ?_⟩) | refine conj_f rfl ?_ | refine conj_t rfl ?_)
        refine conj_f (show (!decide (x < n)) = false by rw [decide_eq_true hx.2]; rfl) ?_
        first | rfl | exact ⟨rfl, rfl⟩ | exact ⟨_, rfl, rfl, rfl⟩ | exact ⟨_, rfl, rfl⟩
      repeat (first | (with_reducible refine w_loc ?_; refine ⟨_, rfl, ?_⟩) | (with_reducible refine w_glo ?_; refine ⟨_, rfl, ?_⟩) | with_reducible refine w_con ?_ | with_reducible refine w_set ?_ | with_reducible refine w_ret ?_ | with_reducible refine w_expr ?_ | with_reducible refine w_unp ?_ | with_reducible refine w_par ?_ | with_reducible refine w_ite ?_ | with_reducible refine w_nx ?_ | with_reducible refine w_rt ?_ | with_reducible refine w_nil ?_ | with_reducible refine w_tup ?_ | with_reducible refine w_lst ?_ | with_reducible refine w_bin ?_ | with_reducible refine w_neg ?_ | with_reducible refine w_not ?_ | with_reducible refine w_cmp ?_ | with_reducible refine w_and ?_ | with_reducible refine w_or ?_ | with_reducible refine w_iff ?_ | with_reducible refine w_isN ?_ | with_reducible refine w_isNN ?_ | with_reducible refine w_callC ?_ | with_reducible refine w_call ?_ | with_reducible refine w_bi ?_ | with_reducible refine w_mt ?_ | with_reducible refine w_idx ?_ | with_reducible refine w_slc ?_ | with_reducible refine w_on ?_ | with_reducible refine w_os ?_ | with_reducible refine w_rev ?_ | with_reducible refine w_sset ?_ | with_reducible refine w_lrng ?_ | with_reducible refine w_lc ?_ | with_reducible refine w_enil ?_ | with_reducible refine w_cons ?_ | with_reducible refine w_star ?_ | with_reducible refine w_ex ?_ | with_reducible refine w_rng1 ?_ | with_reducible refine w_rng2 ?_ | with_reducible refine w_enm ?_ | with_reducible refine w_sub ?_ | with_reducible refine w_dct0 ?_ | with_reducible refine w_isi ?_ | with_reducible refine w_cmp2 ?_ | with_reducible refine w_eq bin_add ?_ | with_reducible refine w_eq bi_lenP ?_ | with_reducible refine w_eq (bi_len len_tup) ?_ | with_reducible refine w_eq (bi_len len_lst) ?_ | with_reducible refine w_eq bin_sub ?_ | with_reducible refine w_eq (bin_fdiv (by decide) (by decide)) ?_ | with_reducible refine ⟨_, cmp_neB, ?_⟩ | with_reducible refine ⟨_, cmp_eqB, ?_⟩ | with_reducible refine ⟨_, cmp_neS, ?_⟩ | with_reducible refine ⟨_, cmp_eqS, ?_⟩ | with_reducible refine ⟨_, cmp_eqI, ?_⟩ | with_reducible refine ⟨_, cmp_neI, ?_⟩ | with_reducible refine ⟨_, truth_bool, ?_⟩ | with_reducible refine ⟨_, ix_pr0, ?_⟩ | with_reducible refine ⟨_, ix_pr1, ?_⟩ | with_reducible refine ⟨_, ix_book, ?_⟩ | with_reducible refine ⟨kind_new, ?_⟩ | with_reducible refine ⟨rfl, ?_⟩ | (with_reducible refine ex_id ?_; refine ⟨_, rfl, ?_⟩) | (with_reducible refine w_len ?_; refine ⟨_, rfl, ?_⟩) | (with_reducible refine w_mkT ?_; refine ⟨_, _, rfl, ?_⟩) | (with_reducible refine w_mkL ?_; refine ⟨_, _, rfl, ?_⟩) | refine conj_f rfl ?_ | refine conj_t rfl ?_)
      exact ⟨rfl, ⟨_, rfl⟩, .inr rfl⟩
    · cases ez
  · subst e0 he
    repeat (first | (with_reducible refine w_loc ?_; refine ⟨_, rfl, ?_⟩) | (with_reducible refine w_glo ?_; refine ⟨_, rfl, ?_⟩) | with_reducible refine w_con ?_ | with_reducible refine w_set ?_ | with_reducible refine w_ret ?_ | with_reducible refine w_expr ?_ | with_reducible refine w_unp ?_ | with_reducible refine w_par ?_ | with_reducible refine w_ite ?_ | with_reducible refine w_nx ?_ | with_reducible refine w_rt ?_ | with_reducible refine w_nil ?_ | with_reducible refine w_tup ?_ | with_reducible refine w_lst ?_ | with_reducible refine w_bin ?_ | with_reducible refine w_neg ?_ | with_reducible refine w_not ?_ | with_reducible refine w_cmp ?_ | with_reducible refine w_and ?_ | with_reducible refine w_or ?_ | with_reducible refine w_iff ?_ | with_reducible refine w_isN ?_ | with_reducible refine w_isNN ?_ | with_reducible refine w_callC ?_ | with_reducible refine w_call ?_ | with_reducible refine w_bi ?_ | with_reducible refine w_mt ?_ | with_reducible refine w_idx ?_ | with_reducible refine w_slc ?_ | with_reducible refine w_on ?_ | with_reducible refine w_os ?_ | with_reducible refine w_rev ?_ | with_reducible refine w_sset ?_ | with_reducible refine w_lrng ?_ | with_reducible refine w_lc ?_ | with_reducible refine w_enil ?_ | with_reducible refine w_cons ?_ | with_reducible refine w_star ?_ | with_reducible refine w_ex ?_ | with_reducible refine w_rng1 ?_ | with_reducible refine w_rng2 ?_ | with_reducible refine w_enm ?_ | with_reducible refine w_sub ?_ | with_reducible refine w_dct0 ?_ | with_reducible refine w_isi ?_ | with_reducible refine w_cmp2 ?_ | with_reducible refine w_eq bin_add ?_ | with_reducible refine w_eq bi_lenP ?_ | with_reducible refine w_eq (bi_len len_tup) ?_ | with_reducible refine w_eq (bi_len len_lst) ?_ | with_reducible refine w_eq bin_sub ?_ | with_reducible refine w_eq (bin_fdiv (by decide) (by decide)) ?_ | with_reducible refine ⟨_, cmp_neB, ?_⟩ | with_reducible refine ⟨_, cmp_eqB, ?_⟩ | with_reducible refine ⟨_, cmp_neS, ?_⟩ | with_reducible refine ⟨_, cmp_eqS, ?_⟩ | with_reducible refine ⟨_, cmp_eqI, ?_⟩ | with_reducible refine ⟨_, cmp_neI, ?_⟩ | with_reducible refine ⟨_, truth_bool, ?_⟩ | with_reducible refine ⟨_, ix_pr0, ?_⟩ | with_reducible refine ⟨_, ix_pr1, ?_⟩ | with_reducible refine ⟨_, ix_book, ?_⟩ | with_reducible refine ⟨kind_new, ?_⟩ | with_reducible refine ⟨rfl, ?_⟩ | (with_reducible refine ex_id ?_; refine ⟨_, rfl, ?_⟩) | (with_reducible refine w_len ?_; refine ⟨_, rfl, ?_⟩) | (with_reducible refine w_mkT ?_; refine ⟨_, _, rfl, ?_⟩) | (with_reducible refine w_mkL ?_; refine ⟨_, _, rfl, ?_⟩) | refine conj_f rfl ?_ | refine conj_t rfl ?_)
    refine w_eq (a := .d (.list [])) rfl ?_
    repeat (first | (with_reducible refine w_loc ?_; refine ⟨_, rfl, ?_⟩) | (with_reducible refine w_glo ?_; refine ⟨_, rfl, ?_⟩) | with_reducible refine w_con ?_ | with_reducible refine w_set ?_ | with_reducible refine w_ret ?_ | with_reducible refine w_expr ?_ | with_reducible refine w_unp ?_ | with_reducible refine w_par ?_ | with_reducible refine w_ite ?_ | with_reducible refine w_nx ?_ | with_reducible refine w_rt ?_ | with_reducible refine w_nil ?_ | with_reducible refine w_tup ?_ | with_reducible refine w_lst ?_ | with_reducible refine w_bin ?_ | with_reducible refine w_neg ?_ | with_reducible refine w_not ?_ | with_reducible refine w_cmp ?_ | with_reducible refine w_and ?_ | with_reducible refine w_or ?_ | with_reducible refine w_iff ?_ | with_reducible refine w_isN ?_ | with_reducible refine w_isNN ?_ | with_reducible refine w_callC ?_ | with_reducible refine w_call ?_ | with_reducible refine w_bi ?_ | with_reducible refine w_mt ?_ | with_reducible refine w_idx ?_ | with_reducible refine w_slc ?_ | with_reducible refine w_on ?_ | with_reducible refine w_os ?_ | with_reducible refine w_rev ?_ | with_reducible refine w_sset ?_ | with_reducible refine w_lrng ?_ | with_reducible refine w_lc ?_ | with_reducible refine w_enil ?_ | with_reducible refine w_cons ?_ | with_reducible refine w_star ?_ | with_reducible refine w_ex ?_ | with_reducible refine w_rng1 ?_ | with_reducible refine w_rng2 ?_ | with_reducible refine w_enm ?_ | with_reducible refine w_sub ?_ | with_reducible refine w_dct0 ?_ | with_reducible refine w_isi ?_ | with_reducible refine w_cmp2 ?_ | with_reducible refine w_eq bin_add ?_ | with_reducible refine w_eq bi_lenP ?_ | with_reducible refine w_eq (bi_len len_tup) ?_ | with_reducible refine w_eq (bi_len len_lst) ?_ | with_reducible refine w_eq bin_sub ?_ | with_reducible refine w_eq (bin_fdiv (by decide) (by decide)) ?_ | with_reducible refine ⟨_, cmp_neB, ?_⟩ | with_reducible refine ⟨_, cmp_eqB, ?_⟩ | with_reducible refine ⟨_, cmp_neS, ?_⟩ | with_reducible refine ⟨_, cmp_eqS, ?_⟩ | with_reducible refine ⟨_, cmp_eqI, ?_⟩ | with_reducible refine ⟨_, cmp_neI, ?_⟩ | with_reducible refine ⟨_, truth_bool, ?_⟩ | with_reducible refine ⟨_, ix_pr0, ?_⟩ | with_reducible refine ⟨_, ix_pr1, ?_⟩ | with_reducible refine ⟨_, ix_book, ?_⟩ | with_reducible refine ⟨kind_new, ?_⟩ | with_reducible refine ⟨rfl, ?_⟩ | (with_reducible refine ex_id ?_; refine ⟨_, rfl, ?_⟩) | (with_reducible refine w_len ?_; refine ⟨_, rfl, ?_⟩) | (with_reducible refine w_mkT ?_; refine ⟨_, _, rfl, ?_⟩) | (with_reducible refine w_mkL ?_; refine ⟨_, _, rfl, ?_⟩) | refine conj_f rfl ?_ | refine conj_t rfl ?_)
    refine w_eq (a := .d (.list [])) rfl ?_
    repeat (first | (with_reducible refine w_loc ?_; refine ⟨_, rfl, ?_⟩) | (with_reducible refine w_glo ?_; refine ⟨_, rfl, ?_⟩) | with_reducible refine w_con ?_ | with_reducible refine w_set ?_ | with_reducible refine w_ret ?_ | with_reducible refine w_expr ?_ | with_reducible refine w_unp ?_ | with_reducible refine w_par ?_ | with_reducible refine w_ite ?_ | with_reducible refine w_nx ?_ | with_reducible refine w_rt ?_ | with_reducible refine w_nil ?_ | with_reducible refine w_tup ?_ | with_reducible refine w_lst ?_ | with_reducible refine w_bin ?_ | with_reducible refine w_neg ?_ | with_reducible refine w_not ?_ | with_reducible refine w_cmp ?_ | with_reducible refine w_and ?_ | with_reducible refine w_or ?_ | with_reducible refine w_iff ?_ | with_reducible refine w_isN ?_ | with_reducible refine w_isNN ?_ | with_reducible refine w_callC ?_ | with_reducible refine w_call ?_ | with_reducible refine w_bi ?_ | with_reducible refine w_mt ?_ | with_reducible refine w_idx ?_ | with_reducible refine w_slc ?_ | with_reducible refine w_on ?_ | with_reducible refine w_os ?_ | with_reducible refine w_rev ?_ | with_reducible refine w_sset ?_ | with_reducible refine w_lrng ?_ | with_reducible refine w_lc ?_ | with_reducible refine w_enil ?_ | with_reducible refine w_cons ?_ | with_reducible refine w_star ?_ | with_reducible refine w_ex ?_ | with_reducible refine w_rng1 ?_ | with_reducible refine w_rng2 ?_ | with_reducible refine w_enm ?_ | with_reducible refine w_sub ?_ | with_reducible refine w_dct0 ?_ | with_reducible refine w_isi ?_ | with_reducible refine w_cmp2 ?_ | with_reducible refine w_eq bin_add ?_ | with_reducible refine w_eq bi_lenP ?_ | with_reducible refine w_eq (bi_len len_tup) ?_ | with_reducible refine w_eq (bi_len len_lst) ?_ | with_reducible refine w_eq bin_sub ?_ | with_reducible refine w_eq (bin_fdiv (by decide) (by decide)) ?_ | with_reducible refine ⟨_, cmp_neB, ?_⟩ | with_reducible refine ⟨_, cmp_eqB, ?_⟩ | with_reducible refine ⟨_, cmp_neS, ?_⟩ | with_reducible refine ⟨_, cmp_eqS, ?_⟩ | with_reducible refine ⟨_, cmp_eqI, ?_⟩ | with_reducible refine ⟨_, cmp_neI, ?_⟩ | with_reducible refine ⟨_, truth_bool, ?_⟩ | with_reducible refine ⟨_, ix_pr0, ?_⟩ | with_reducible refine ⟨_, ix_pr1, ?_⟩ | with_reducible refine ⟨_, ix_book, ?_⟩ | with_reducible refine ⟨kind_new, ?_⟩ | with_reducible refine ⟨rfl, ?_⟩ | (with_reducible refine ex_id ?_; refine ⟨_, rfl, ?_⟩) | (with_reducible refine w_len ?_; refine ⟨_, rfl, ?_⟩) | (with_reducible refine w_mkT ?_; refine ⟨_, _, rfl, ?_⟩) | (with_reducible refine w_mkL ?_; refine ⟨_, _, rfl, ?_⟩) | refine conj_f rfl ?_ | refine conj_t rfl ?_)
    refine w_eq (a := []) rfl ?_
    repeat (first | (with_reducible refine w_loc ?_; refine ⟨_, rfl, ?_⟩) | (with_reducible refine w_glo ?_; refine ⟨_, rfl, ?_⟩) | with_reducible refine w_con ?_ | with_reducible refine w_set ?_ | with_reducible refine w_ret ?_ | with_reducible refine w_expr ?_ | with_reducible refine w_unp ?_ | with_reducible refine w_par ?_ | with_reducible refine w_ite ?_ | with_reducible refine w_nx ?_ | with_reducible refine w_rt ?_ | with_reducible refine w_nil ?_ | with_reducible refine w_tup ?_ | with_reducible refine w_lst ?_ | with_reducible refine w_bin ?_ | with_reducible refine w_neg ?_ | with_reducible refine w_not ?_ | with_reducible refine w_cmp ?_ | with_reducible refine w_and ?_ | with_reducible refine w_or ?_ | with_reducible refine w_iff ?_ | with_reducible refine w_isN ?_ | with_reducible refine w_isNN ?_ | with_reducible refine w_callC ?_ | with_reducible refine w_call ?_ | with_reducible refine w_bi ?_ | with_reducible refine w_mt ?_ | with_reducible refine w_idx ?_ | with_reducible refine w_slc ?_ | with_reducible refine w_on ?_ | with_reducible refine w_os ?_ | with_reducible refine w_rev ?_ | with_reducible refine w_sset ?_ | with_reducible refine w_lrng ?_ | with_reducible refine w_lc ?_ | with_reducible refine w_enil ?_ | with_reducible refine w_cons ?_ | with_reducible refine w_star ?_ | with_reducible refine w_ex ?_ | with_reducible refine w_rng1 ?_ | with_reducible refine w_rng2 ?_ | with_reducible refine w_enm ?_ | with_reducible refine w_sub ?_ | with_reducible refine w_dct0 ?_ | with_reducible refine w_isi ?_ | with_reducible refine w_cmp2 ?_ | with_reducible refine w_eq bin_add ?_ | with_reducible refine w_eq bi_lenP ?_ | with_reducible refine w_eq (bi_len len_tup) ?_ | with_reducible refine w_eq (bi_len len_lst) ?_ | with_reducible refine w_eq bin_sub ?_ | with_reducible refine w_eq (bin_fdiv (by decide) (by decide)) ?_ | with_reducible refine ⟨_, cmp_neB, ?_⟩ | with_reducible refine ⟨_, cmp_eqB, ?_⟩ | with_reducible refine ⟨_, cmp_neS, ?_⟩ | with_reducible refine ⟨_, cmp_eqS, ?_⟩ | with_reducible refine ⟨_, cmp_eqI, ?_⟩ | with_reducible refine ⟨_, cmp_neI, ?_⟩ | with_reducible refine ⟨_, truth_bool, ?_⟩ | with_reducible refine ⟨_, ix_pr0, ?_⟩ | with_reducible refine ⟨_, ix_pr1, ?_⟩ | with_reducible refine ⟨_, ix_book, ?_⟩ | with_reducible refine ⟨kind_new, ?_⟩ | with_reducible refine ⟨rfl, ?_⟩ | (with_reducible refine ex_id ?_; refine ⟨_, rfl, ?_⟩) | (with_reducible refine w_len ?_; refine ⟨_, rfl, ?_⟩) | (with_reducible refine w_mkT ?_; refine ⟨_, _, rfl, ?_⟩) | (with_reducible refine w_mkL ?_; refine ⟨_, _, rfl, ?_⟩) | refine conj_f rfl ?_ | refine conj_t rfl ?_)
    first | rfl | exact ⟨rfl, rfl⟩ | exact ⟨_, rfl, rfl, rfl⟩ | exact ⟨_, rfl, rfl⟩
def loopBody : S → Ss
  | .loop _ _ b => b
  | _ => .nil
def nthS : Nat → Ss → S
  | 0, .cons s _ => s
  | n + 1, .cons _ a => nthS n a
  | _, .nil => .pass
def dropS : Nat → Ss → Ss
  | n + 1, .cons _ a => dropS n a
  | _, a => a
def t12 : Ss := loopBody (nthS 1 b63)
def e12 : Ss := dropS 2 b63
theorem b63_eq : b63 = .cons (.set 1 (.call 5 (.cons (.loc 0) .nil))) (.cons (.loop (.name 2) (.rng1 (.con (.int 12))) t12) e12) := rfl
def l12 (x2 x3 x4 x5 x6 x7 x8 x9 x10 x11 x12 : Option Val) : Slots := [some (.ref 0), some (.ref 2), x2, x3, x4, x5, x6, x7, x8, x9, x10, x11, x12]
def ten12 (en : Slots) : Prop := ∃ x2 x3 x4 x5 x6 x7 x8 x9 x10 x11 x12, en = l12 x2 x3 x4 x5 x6 x7 x8 x9 x10 x11 x12
def P12 (_ : List D) (en : Slots) (st : Sto) : Prop := Gr st [] ∧ ten12 en
def Q12 : Fl → Sto → Prop := fun fl _ => ∃ v, fl = .rt v ∧ v = .d (.bool true)
theorem fin12 {n : Int} {a b : List Int} {x2 x6 x7 x8 x9 x10 x11 x12 : Option Val} {st : Sto} {xs : List D} (h1 : 1 ≤ n) (h9 : n ≤ 9) (ha : a.length = n.toNat) (hb : b.length = n.toNat) (pa : Sm (10 ^ 30) a) (pb : Sm (10 ^ 30) b) (g : Gr st []) :
    Ok (evSs (⟨calls gdefs gglo 30, gglo⟩ : Ck) (dropS 5 t12) (l12 x2 (some (iv n)) (some (.d (encP a))) (some (.d (encP b))) x6 x7 x8 x9 x10 x11 x12) st) (turn P12 (⟨calls gdefs gglo 30, gglo⟩ : Ck) e12 Q12 xs) := by
  have ia := sm_pl (by decide) pa
  have ib := sm_pl (by decide) pb
  have io : ∀ l : List Int, l.length ≤ 60 → ∀ x ∈ ordM l, Pl 0 0 (.int x) := fun l hl => sm_pl (b := 60) (by decide) (ord_sm.mono hl)
  have pK : Pl 2 2000 (.list [encP a, encP b]) := (Pl.list (n := 1) (b := 100) (plA_cons ((pl_encP (by decide) pa).mono (by omega) (by omega)) (plA_cons ((pl_encP (by decide) pb).mono (by omega) (by omega)) plA_nil))).mono (by omega) (by simp)
  obtain ⟨x, hx, ex⟩ : ∃ x, PartS a b x ∧ ∀ st, calls gdefs gglo 30 60 [.d (encP a), .d (encP b)] st = .ok (.d x) st := by
    have hab : b.length = a.length := by omega
    have hal : a.length ≤ 1000 := by omega
    exact parting_run (k := 29) hab hal
  have hno : noneB (.d x) = decide (ordM a = ordM b) := by
    rcases hx with ⟨rfl, h⟩ | ⟨u, v, rfl, hu0, hu, hv0, hv, hn⟩
    · rw [decide_eq_true (agr_ord (by omega) h)]
      rfl
    · rw [decide_eq_false fun e => hn (ord_agr (by omega) e hu0 hu hv0 hv)]
      rfl
  have px : Pl 6 2000 x := by
    rcases hx with ⟨rfl, h⟩ | ⟨u, v, rfl, hu0, hu, hv0, hv, hn⟩
    · exact Pl.none
    · exact (pl_encSw (n := 9) ⟨fun p h => (by cases h), fun p h => by cases h; exact ⟨hu0, by show u < _; omega, hv0, by show v < _; omega⟩, Nat.zero_le _⟩ (Nat.zero_le _) (by decide)).mono (by decide) (by decide)
  show Ok (evSs (⟨calls gdefs gglo 30, gglo⟩ : Ck) (.cons (.par [8, 9, 10] _) _) _ st) _
  repeat (first | (with_reducible refine w_loc ?_; refine ⟨_, rfl, ?_⟩) | (with_reducible refine w_glo ?_; refine ⟨_, rfl, ?_⟩) | with_reducible refine w_con ?_ | with_reducible refine w_set ?_ | with_reducible refine w_ret ?_ | with_reducible refine w_expr ?_ | with_reducible refine w_unp ?_ | with_reducible refine w_par ?_ | with_reducible refine w_ite ?_ | with_reducible refine w_nx ?_ | with_reducible refine w_rt ?_ | with_reducible refine w_nil ?_ | with_reducible refine w_tup ?_ | with_reducible refine w_lst ?_ | with_reducible refine w_bin ?_ | with_reducible refine w_neg ?_ | with_reducible refine w_not ?_ | with_reducible refine w_cmp ?_ | with_reducible refine w_and ?_ | with_reducible refine w_or ?_ | with_reducible refine w_iff ?_ | with_reducible refine w_isN ?_ | with_reducible refine w_isNN ?_ | with_reducible refine w_callC ?_ | with_reducible refine w_call ?_ | with_reducible refine w_bi ?_ | with_reducible refine w_mt ?_ | with_reducible refine w_idx ?_ | with_reducible refine w_slc ?_ | with_reducible refine w_on ?_ | with_reducible refine w_os ?_ | with_reducible refine w_rev ?_ | with_reducible refine w_sset ?_ | with_reducible refine w_lrng ?_ | with_reducible refine w_lc ?_ | with_reducible refine w_enil ?_ | with_reducible refine w_cons ?_ | with_reducible refine w_star ?_ | with_reducible refine w_ex ?_ | with_reducible refine w_rng1 ?_ | with_reducible refine w_rng2 ?_ | with_reducible refine w_enm ?_ | with_reducible refine w_sub ?_ | with_reducible refine w_dct0 ?_ | with_reducible refine w_isi ?_ | with_reducible refine w_cmp2 ?_ | with_reducible refine w_eq bin_add ?_ | with_reducible refine w_eq bi_lenP ?_ | with_reducible refine w_eq (bi_len len_tup) ?_ | with_reducible refine w_eq (bi_len len_lst) ?_ | with_reducible refine w_eq bin_sub ?_ | with_reducible refine w_eq (bin_fdiv (by decide) (by decide)) ?_ | with_reducible refine ⟨_, cmp_neB, ?_⟩ | with_reducible refine ⟨_, cmp_eqB, ?_⟩ | with_reducible refine ⟨_, cmp_neS, ?_⟩ | with_reducible refine ⟨_, cmp_eqS, ?_⟩ | with_reducible refine ⟨_, cmp_eqI, ?_⟩ | with_reducible refine ⟨_, cmp_neI, ?_⟩ | with_reducible refine ⟨_, truth_bool, ?_⟩ | with_reducible refine ⟨_, ix_pr0, ?_⟩ | with_reducible refine ⟨_, ix_pr1, ?_⟩ | with_reducible refine ⟨_, ix_book, ?_⟩ | with_reducible refine ⟨kind_new, ?_⟩ | with_reducible refine ⟨rfl, ?_⟩ | (with_reducible refine ex_id ?_; refine ⟨_, rfl, ?_⟩) | (with_reducible refine w_len ?_; refine ⟨_, rfl, ?_⟩) | (with_reducible refine w_mkT ?_; refine ⟨_, _, rfl, ?_⟩) | (with_reducible refine w_mkL ?_; refine ⟨_, _, rfl, ?_⟩))
  refine w_eq (lorder_run (k := 29) (by omega) ia) ?_
  repeat (first | (with_reducible refine w_loc ?_; refine ⟨_, rfl, ?_⟩) | (with_reducible refine w_glo ?_; refine ⟨_, rfl, ?_⟩) | with_reducible refine w_con ?_ | with_reducible refine w_set ?_ | with_reducible refine w_ret ?_ | with_reducible refine w_expr ?_ | with_reducible refine w_unp ?_ | with_reducible refine w_par ?_ | with_reducible refine w_ite ?_ | with_reducible refine w_nx ?_ | with_reducible refine w_rt ?_ | with_reducible refine w_nil ?_ | with_reducible refine w_tup ?_ | with_reducible refine w_lst ?_ | with_reducible refine w_bin ?_ | with_reducible refine w_neg ?_ | with_reducible refine w_not ?_ | with_reducible refine w_cmp ?_ | with_reducible refine w_and ?_ | with_reducible refine w_or ?_ | with_reducible refine w_iff ?_ | with_reducible refine w_isN ?_ | with_reducible refine w_isNN ?_ | with_reducible refine w_callC ?_ | with_reducible refine w_call ?_ | with_reducible refine w_bi ?_ | with_reducible refine w_mt ?_ | with_reducible refine w_idx ?_ | with_reducible refine w_slc ?_ | with_reducible refine w_on ?_ | with_reducible refine w_os ?_ | with_reducible refine w_rev ?_ | with_reducible refine w_sset ?_ | with_reducible refine w_lrng ?_ | with_reducible refine w_lc ?_ | with_reducible refine w_enil ?_ | with_reducible refine w_cons ?_ | with_reducible refine w_star ?_ | with_reducible refine w_ex ?_ | with_reducible refine w_rng1 ?_ | with_reducible refine w_rng2 ?_ | with_reducible refine w_enm ?_ | with_reducible refine w_sub ?_ | with_reducible refine w_dct0 ?_ | with_reducible refine w_isi ?_ | with_reducible refine w_cmp2 ?_ | with_reducible refine w_eq bin_add ?_ | with_reducible refine w_eq bi_lenP ?_ | with_reducible refine w_eq (bi_len len_tup) ?_ | with_reducible refine w_eq (bi_len len_lst) ?_ | with_reducible refine w_eq bin_sub ?_ | with_reducible refine w_eq (bin_fdiv (by decide) (by decide)) ?_ | with_reducible refine ⟨_, cmp_neB, ?_⟩ | with_reducible refine ⟨_, cmp_eqB, ?_⟩ | with_reducible refine ⟨_, cmp_neS, ?_⟩ | with_reducible refine ⟨_, cmp_eqS, ?_⟩ | with_reducible refine ⟨_, cmp_eqI, ?_⟩ | with_reducible refine ⟨_, cmp_neI, ?_⟩ | with_reducible refine ⟨_, truth_bool, ?_⟩ | with_reducible refine ⟨_, ix_pr0, ?_⟩ | with_reducible refine ⟨_, ix_pr1, ?_⟩ | with_reducible refine ⟨_, ix_book, ?_⟩ | with_reducible refine ⟨kind_new, ?_⟩ | with_reducible refine ⟨rfl, ?_⟩ | (with_reducible refine ex_id ?_; refine ⟨_, rfl, ?_⟩) | (with_reducible refine w_len ?_; refine ⟨_, rfl, ?_⟩) | (with_reducible refine w_mkT ?_; refine ⟨_, _, rfl, ?_⟩) | (with_reducible refine w_mkL ?_; refine ⟨_, _, rfl, ?_⟩))
  refine w_eq (lorder_run (k := 29) (by omega) ib) ?_
  repeat (first | (with_reducible refine w_loc ?_; refine ⟨_, rfl, ?_⟩) | (with_reducible refine w_glo ?_; refine ⟨_, rfl, ?_⟩) | with_reducible refine w_con ?_ | with_reducible refine w_set ?_ | with_reducible refine w_ret ?_ | with_reducible refine w_expr ?_ | with_reducible refine w_unp ?_ | with_reducible refine w_par ?_ | with_reducible refine w_ite ?_ | with_reducible refine w_nx ?_ | with_reducible refine w_rt ?_ | with_reducible refine w_nil ?_ | with_reducible refine w_tup ?_ | with_reducible refine w_lst ?_ | with_reducible refine w_bin ?_ | with_reducible refine w_neg ?_ | with_reducible refine w_not ?_ | with_reducible refine w_cmp ?_ | with_reducible refine w_and ?_ | with_reducible refine w_or ?_ | with_reducible refine w_iff ?_ | with_reducible refine w_isN ?_ | with_reducible refine w_isNN ?_ | with_reducible refine w_callC ?_ | with_reducible refine w_call ?_ | with_reducible refine w_bi ?_ | with_reducible refine w_mt ?_ | with_reducible refine w_idx ?_ | with_reducible refine w_slc ?_ | with_reducible refine w_on ?_ | with_reducible refine w_os ?_ | with_reducible refine w_rev ?_ | with_reducible refine w_sset ?_ | with_reducible refine w_lrng ?_ | with_reducible refine w_lc ?_ | with_reducible refine w_enil ?_ | with_reducible refine w_cons ?_ | with_reducible refine w_star ?_ | with_reducible refine w_ex ?_ | with_reducible refine w_rng1 ?_ | with_reducible refine w_rng2 ?_ | with_reducible refine w_enm ?_ | with_reducible refine w_sub ?_ | with_reducible refine w_dct0 ?_ | with_reducible refine w_isi ?_ | with_reducible refine w_cmp2 ?_ | with_reducible refine w_eq bin_add ?_ | with_reducible refine w_eq bi_lenP ?_ | with_reducible refine w_eq (bi_len len_tup) ?_ | with_reducible refine w_eq (bi_len len_lst) ?_ | with_reducible refine w_eq bin_sub ?_ | with_reducible refine w_eq (bin_fdiv (by decide) (by decide)) ?_ | with_reducible refine ⟨_, cmp_neB, ?_⟩ | with_reducible refine ⟨_, cmp_eqB, ?_⟩ | with_reducible refine ⟨_, cmp_neS, ?_⟩ | with_reducible refine ⟨_, cmp_eqS, ?_⟩ | with_reducible refine ⟨_, cmp_eqI, ?_⟩ | with_reducible refine ⟨_, cmp_neI, ?_⟩ | with_reducible refine ⟨_, truth_bool, ?_⟩ | with_reducible refine ⟨_, ix_pr0, ?_⟩ | with_reducible refine ⟨_, ix_pr1, ?_⟩ | with_reducible refine ⟨_, ix_book, ?_⟩ | with_reducible refine ⟨kind_new, ?_⟩ | with_reducible refine ⟨rfl, ?_⟩ | (with_reducible refine ex_id ?_; refine ⟨_, rfl, ?_⟩) | (with_reducible refine w_len ?_; refine ⟨_, rfl, ?_⟩) | (with_reducible refine w_mkT ?_; refine ⟨_, _, rfl, ?_⟩) | (with_reducible refine w_mkL ?_; refine ⟨_, _, rfl, ?_⟩))
  refine ⟨_, cmp_eqP (io a (by omega)) (io b (by omega)), ?_⟩
  repeat (first | (with_reducible refine w_loc ?_; refine ⟨_, rfl, ?_⟩) | (with_reducible refine w_glo ?_; refine ⟨_, rfl, ?_⟩) | with_reducible refine w_con ?_ | with_reducible refine w_set ?_ | with_reducible refine w_ret ?_ | with_reducible refine w_expr ?_ | with_reducible refine w_unp ?_ | with_reducible refine w_par ?_ | with_reducible refine w_ite ?_ | with_reducible refine w_nx ?_ | with_reducible refine w_rt ?_ | with_reducible refine w_nil ?_ | with_reducible refine w_tup ?_ | with_reducible refine w_lst ?_ | with_reducible refine w_bin ?_ | with_reducible refine w_neg ?_ | with_reducible refine w_not ?_ | with_reducible refine w_cmp ?_ | with_reducible refine w_and ?_ | with_reducible refine w_or ?_ | with_reducible refine w_iff ?_ | with_reducible refine w_isN ?_ | with_reducible refine w_isNN ?_ | with_reducible refine w_callC ?_ | with_reducible refine w_call ?_ | with_reducible refine w_bi ?_ | with_reducible refine w_mt ?_ | with_reducible refine w_idx ?_ | with_reducible refine w_slc ?_ | with_reducible refine w_on ?_ | with_reducible refine w_os ?_ | with_reducible refine w_rev ?_ | with_reducible refine w_sset ?_ | with_reducible refine w_lrng ?_ | with_reducible refine w_lc ?_ | with_reducible refine w_enil ?_ | with_reducible refine w_cons ?_ | with_reducible refine w_star ?_ | with_reducible refine w_ex ?_ | with_reducible refine w_rng1 ?_ | with_reducible refine w_rng2 ?_ | with_reducible refine w_enm ?_ | with_reducible refine w_sub ?_ | with_reducible refine w_dct0 ?_ | with_reducible refine w_isi ?_ | with_reducible refine w_cmp2 ?_ | with_reducible refine w_eq bin_add ?_ | with_reducible refine w_eq bi_lenP ?_ | with_reducible refine w_eq (bi_len len_tup) ?_ | with_reducible refine w_eq (bi_len len_lst) ?_ | with_reducible refine w_eq bin_sub ?_ | with_reducible refine w_eq (bin_fdiv (by decide) (by decide)) ?_ | with_reducible refine ⟨_, cmp_neB, ?_⟩ | with_reducible refine ⟨_, cmp_eqB, ?_⟩ | with_reducible refine ⟨_, cmp_neS, ?_⟩ | with_reducible refine ⟨_, cmp_eqS, ?_⟩ | with_reducible refine ⟨_, cmp_eqI, ?_⟩ | with_reducible refine ⟨_, cmp_neI, ?_⟩ | with_reducible refine ⟨_, truth_bool, ?_⟩ | with_reducible refine ⟨_, ix_pr0, ?_⟩ | with_reducible refine ⟨_, ix_pr1, ?_⟩ | with_reducible refine ⟨_, ix_book, ?_⟩ | with_reducible refine ⟨kind_new, ?_⟩ | with_reducible refine ⟨rfl, ?_⟩ | (with_reducible refine ex_id ?_; refine ⟨_, rfl, ?_⟩) | (with_reducible refine w_len ?_; refine ⟨_, rfl, ?_⟩) | (with_reducible refine w_mkT ?_; refine ⟨_, _, rfl, ?_⟩) | (with_reducible refine w_mkL ?_; refine ⟨_, _, rfl, ?_⟩))
  refine w_eq (repr_pl rfl pK (by omega) (by omega)) ?_
  repeat (first | (with_reducible refine w_loc ?_; refine ⟨_, rfl, ?_⟩) | (with_reducible refine w_glo ?_; refine ⟨_, rfl, ?_⟩) | with_reducible refine w_con ?_ | with_reducible refine w_set ?_ | with_reducible refine w_ret ?_ | with_reducible refine w_expr ?_ | with_reducible refine w_unp ?_ | with_reducible refine w_par ?_ | with_reducible refine w_ite ?_ | with_reducible refine w_nx ?_ | with_reducible refine w_rt ?_ | with_reducible refine w_nil ?_ | with_reducible refine w_tup ?_ | with_reducible refine w_lst ?_ | with_reducible refine w_bin ?_ | with_reducible refine w_neg ?_ | with_reducible refine w_not ?_ | with_reducible refine w_cmp ?_ | with_reducible refine w_and ?_ | with_reducible refine w_or ?_ | with_reducible refine w_iff ?_ | with_reducible refine w_isN ?_ | with_reducible refine w_isNN ?_ | with_reducible refine w_callC ?_ | with_reducible refine w_call ?_ | with_reducible refine w_bi ?_ | with_reducible refine w_mt ?_ | with_reducible refine w_idx ?_ | with_reducible refine w_slc ?_ | with_reducible refine w_on ?_ | with_reducible refine w_os ?_ | with_reducible refine w_rev ?_ | with_reducible refine w_sset ?_ | with_reducible refine w_lrng ?_ | with_reducible refine w_lc ?_ | with_reducible refine w_enil ?_ | with_reducible refine w_cons ?_ | with_reducible refine w_star ?_ | with_reducible refine w_ex ?_ | with_reducible refine w_rng1 ?_ | with_reducible refine w_rng2 ?_ | with_reducible refine w_enm ?_ | with_reducible refine w_sub ?_ | with_reducible refine w_dct0 ?_ | with_reducible refine w_isi ?_ | with_reducible refine w_cmp2 ?_ | with_reducible refine w_eq bin_add ?_ | with_reducible refine w_eq bi_lenP ?_ | with_reducible refine w_eq (bi_len len_tup) ?_ | with_reducible refine w_eq (bi_len len_lst) ?_ | with_reducible refine w_eq bin_sub ?_ | with_reducible refine w_eq (bin_fdiv (by decide) (by decide)) ?_ | with_reducible refine ⟨_, cmp_neB, ?_⟩ | with_reducible refine ⟨_, cmp_eqB, ?_⟩ | with_reducible refine ⟨_, cmp_neS, ?_⟩ | with_reducible refine ⟨_, cmp_eqS, ?_⟩ | with_reducible refine ⟨_, cmp_eqI, ?_⟩ | with_reducible refine ⟨_, cmp_neI, ?_⟩ | with_reducible refine ⟨_, truth_bool, ?_⟩ | with_reducible refine ⟨_, ix_pr0, ?_⟩ | with_reducible refine ⟨_, ix_pr1, ?_⟩ | with_reducible refine ⟨_, ix_book, ?_⟩ | with_reducible refine ⟨kind_new, ?_⟩ | with_reducible refine ⟨rfl, ?_⟩ | (with_reducible refine ex_id ?_; refine ⟨_, rfl, ?_⟩) | (with_reducible refine w_len ?_; refine ⟨_, rfl, ?_⟩) | (with_reducible refine w_mkT ?_; refine ⟨_, _, rfl, ?_⟩) | (with_reducible refine w_mkL ?_; refine ⟨_, _, rfl, ?_⟩))
  refine w_eq (ex _) ?_
  repeat (first | (with_reducible refine w_loc ?_; refine ⟨_, rfl, ?_⟩) | (with_reducible refine w_glo ?_; refine ⟨_, rfl, ?_⟩) | with_reducible refine w_con ?_ | with_reducible refine w_set ?_ | with_reducible refine w_ret ?_ | with_reducible refine w_expr ?_ | with_reducible refine w_unp ?_ | with_reducible refine w_par ?_ | with_reducible refine w_ite ?_ | with_reducible refine w_nx ?_ | with_reducible refine w_rt ?_ | with_reducible refine w_nil ?_ | with_reducible refine w_tup ?_ | with_reducible refine w_lst ?_ | with_reducible refine w_bin ?_ | with_reducible refine w_neg ?_ | with_reducible refine w_not ?_ | with_reducible refine w_cmp ?_ | with_reducible refine w_and ?_ | with_reducible refine w_or ?_ | with_reducible refine w_iff ?_ | with_reducible refine w_isN ?_ | with_reducible refine w_isNN ?_ | with_reducible refine w_callC ?_ | with_reducible refine w_call ?_ | with_reducible refine w_bi ?_ | with_reducible refine w_mt ?_ | with_reducible refine w_idx ?_ | with_reducible refine w_slc ?_ | with_reducible refine w_on ?_ | with_reducible refine w_os ?_ | with_reducible refine w_rev ?_ | with_reducible refine w_sset ?_ | with_reducible refine w_lrng ?_ | with_reducible refine w_lc ?_ | with_reducible refine w_enil ?_ | with_reducible refine w_cons ?_ | with_reducible refine w_star ?_ | with_reducible refine w_ex ?_ | with_reducible refine w_rng1 ?_ | with_reducible refine w_rng2 ?_ | with_reducible refine w_enm ?_ | with_reducible refine w_sub ?_ | with_reducible refine w_dct0 ?_ | with_reducible refine w_isi ?_ | with_reducible refine w_cmp2 ?_ | with_reducible refine w_eq bin_add ?_ | with_reducible refine w_eq bi_lenP ?_ | with_reducible refine w_eq (bi_len len_tup) ?_ | with_reducible refine w_eq (bi_len len_lst) ?_ | with_reducible refine w_eq bin_sub ?_ | with_reducible refine w_eq (bin_fdiv (by decide) (by decide)) ?_ | with_reducible refine ⟨_, cmp_neB, ?_⟩ | with_reducible refine ⟨_, cmp_eqB, ?_⟩ | with_reducible refine ⟨_, cmp_neS, ?_⟩ | with_reducible refine ⟨_, cmp_eqS, ?_⟩ | with_reducible refine ⟨_, cmp_eqI, ?_⟩ | with_reducible refine ⟨_, cmp_neI, ?_⟩ | with_reducible refine ⟨_, truth_bool, ?_⟩ | with_reducible refine ⟨_, ix_pr0, ?_⟩ | with_reducible refine ⟨_, ix_pr1, ?_⟩ | with_reducible refine ⟨_, ix_book, ?_⟩ | with_reducible refine ⟨kind_new, ?_⟩ | with_reducible refine ⟨rfl, ?_⟩ | (with_reducible refine ex_id ?_; refine ⟨_, rfl, ?_⟩) | (with_reducible refine w_len ?_; refine ⟨_, rfl, ?_⟩) | (with_reducible refine w_mkT ?_; refine ⟨_, _, rfl, ?_⟩) | (with_reducible refine w_mkL ?_; refine ⟨_, _, rfl, ?_⟩))
  refine conj_f (by rw [hno]; simp) ?_
  repeat (first | (with_reducible refine w_loc ?_; refine ⟨_, rfl, ?_⟩) | (with_reducible refine w_glo ?_; refine ⟨_, rfl, ?_⟩) | with_reducible refine w_con ?_ | with_reducible refine w_set ?_ | with_reducible refine w_ret ?_ | with_reducible refine w_expr ?_ | with_reducible refine w_unp ?_ | with_reducible refine w_par ?_ | with_reducible refine w_ite ?_ | with_reducible refine w_nx ?_ | with_reducible refine w_rt ?_ | with_reducible refine w_nil ?_ | with_reducible refine w_tup ?_ | with_reducible refine w_lst ?_ | with_reducible refine w_bin ?_ | with_reducible refine w_neg ?_ | with_reducible refine w_not ?_ | with_reducible refine w_cmp ?_ | with_reducible refine w_and ?_ | with_reducible refine w_or ?_ | with_reducible refine w_iff ?_ | with_reducible refine w_isN ?_ | with_reducible refine w_isNN ?_ | with_reducible refine w_callC ?_ | with_reducible refine w_call ?_ | with_reducible refine w_bi ?_ | with_reducible refine w_mt ?_ | with_reducible refine w_idx ?_ | with_reducible refine w_slc ?_ | with_reducible refine w_on ?_ | with_reducible refine w_os ?_ | with_reducible refine w_rev ?_ | with_reducible refine w_sset ?_ | with_reducible refine w_lrng ?_ | with_reducible refine w_lc ?_ | with_reducible refine w_enil ?_ | with_reducible refine w_cons ?_ | with_reducible refine w_star ?_ | with_reducible refine w_ex ?_ | with_reducible refine w_rng1 ?_ | with_reducible refine w_rng2 ?_ | with_reducible refine w_enm ?_ | with_reducible refine w_sub ?_ | with_reducible refine w_dct0 ?_ | with_reducible refine w_isi ?_ | with_reducible refine w_cmp2 ?_ | with_reducible refine w_eq bin_add ?_ | with_reducible refine w_eq bi_lenP ?_ | with_reducible refine w_eq (bi_len len_tup) ?_ | with_reducible refine w_eq (bi_len len_lst) ?_ | with_reducible refine w_eq bin_sub ?_ | with_reducible refine w_eq (bin_fdiv (by decide) (by decide)) ?_ | with_reducible refine ⟨_, cmp_neB, ?_⟩ | with_reducible refine ⟨_, cmp_eqB, ?_⟩ | with_reducible refine ⟨_, cmp_neS, ?_⟩ | with_reducible refine ⟨_, cmp_eqS, ?_⟩ | with_reducible refine ⟨_, cmp_eqI, ?_⟩ | with_reducible refine ⟨_, cmp_neI, ?_⟩ | with_reducible refine ⟨_, truth_bool, ?_⟩ | with_reducible refine ⟨_, ix_pr0, ?_⟩ | with_reducible refine ⟨_, ix_pr1, ?_⟩ | with_reducible refine ⟨_, ix_book, ?_⟩ | with_reducible refine ⟨kind_new, ?_⟩ | with_reducible refine ⟨rfl, ?_⟩ | (with_reducible refine ex_id ?_; refine ⟨_, rfl, ?_⟩) | (with_reducible refine w_len ?_; refine ⟨_, rfl, ?_⟩) | (with_reducible refine w_mkT ?_; refine ⟨_, _, rfl, ?_⟩) | (with_reducible refine w_mkL ?_; refine ⟨_, _, rfl, ?_⟩))
  refine w_eq (ex _) ?_
  repeat (first | (with_reducible refine w_loc ?_; refine ⟨_, rfl, ?_⟩) | (with_reducible refine w_glo ?_; refine ⟨_, rfl, ?_⟩) | with_reducible refine w_con ?_ | with_reducible refine w_set ?_ | with_reducible refine w_ret ?_ | with_reducible refine w_expr ?_ | with_reducible refine w_unp ?_ | with_reducible refine w_par ?_ | with_reducible refine w_ite ?_ | with_reducible refine w_nx ?_ | with_reducible refine w_rt ?_ | with_reducible refine w_nil ?_ | with_reducible refine w_tup ?_ | with_reducible refine w_lst ?_ | with_reducible refine w_bin ?_ | with_reducible refine w_neg ?_ | with_reducible refine w_not ?_ | with_reducible refine w_cmp ?_ | with_reducible refine w_and ?_ | with_reducible refine w_or ?_ | with_reducible refine w_iff ?_ | with_reducible refine w_isN ?_ | with_reducible refine w_isNN ?_ | with_reducible refine w_callC ?_ | with_reducible refine w_call ?_ | with_reducible refine w_bi ?_ | with_reducible refine w_mt ?_ | with_reducible refine w_idx ?_ | with_reducible refine w_slc ?_ | with_reducible refine w_on ?_ | with_reducible refine w_os ?_ | with_reducible refine w_rev ?_ | with_reducible refine w_sset ?_ | with_reducible refine w_lrng ?_ | with_reducible refine w_lc ?_ | with_reducible refine w_enil ?_ | with_reducible refine w_cons ?_ | with_reducible refine w_star ?_ | with_reducible refine w_ex ?_ | with_reducible refine w_rng1 ?_ | with_reducible refine w_rng2 ?_ | with_reducible refine w_enm ?_ | with_reducible refine w_sub ?_ | with_reducible refine w_dct0 ?_ | with_reducible refine w_isi ?_ | with_reducible refine w_cmp2 ?_ | with_reducible refine w_eq bin_add ?_ | with_reducible refine w_eq bi_lenP ?_ | with_reducible refine w_eq (bi_len len_tup) ?_ | with_reducible refine w_eq (bi_len len_lst) ?_ | with_reducible refine w_eq bin_sub ?_ | with_reducible refine w_eq (bin_fdiv (by decide) (by decide)) ?_ | with_reducible refine ⟨_, cmp_neB, ?_⟩ | with_reducible refine ⟨_, cmp_eqB, ?_⟩ | with_reducible refine ⟨_, cmp_neS, ?_⟩ | with_reducible refine ⟨_, cmp_eqS, ?_⟩ | with_reducible refine ⟨_, cmp_eqI, ?_⟩ | with_reducible refine ⟨_, cmp_neI, ?_⟩ | with_reducible refine ⟨_, truth_bool, ?_⟩ | with_reducible refine ⟨_, ix_pr0, ?_⟩ | with_reducible refine ⟨_, ix_pr1, ?_⟩ | with_reducible refine ⟨_, ix_book, ?_⟩ | with_reducible refine ⟨kind_new, ?_⟩ | with_reducible refine ⟨rfl, ?_⟩ | (with_reducible refine ex_id ?_; refine ⟨_, rfl, ?_⟩) | (with_reducible refine w_len ?_; refine ⟨_, rfl, ?_⟩) | (with_reducible refine w_mkT ?_; refine ⟨_, _, rfl, ?_⟩) | (with_reducible refine w_mkL ?_; refine ⟨_, _, rfl, ?_⟩))
  refine w_eq (repr_pl rfl px (by omega) (by omega)) ?_
  repeat (first | (with_reducible refine w_loc ?_; refine ⟨_, rfl, ?_⟩) | (with_reducible refine w_glo ?_; refine ⟨_, rfl, ?_⟩) | with_reducible refine w_con ?_ | with_reducible refine w_set ?_ | with_reducible refine w_ret ?_ | with_reducible refine w_expr ?_ | with_reducible refine w_unp ?_ | with_reducible refine w_par ?_ | with_reducible refine w_ite ?_ | with_reducible refine w_nx ?_ | with_reducible refine w_rt ?_ | with_reducible refine w_nil ?_ | with_reducible refine w_tup ?_ | with_reducible refine w_lst ?_ | with_reducible refine w_bin ?_ | with_reducible refine w_neg ?_ | with_reducible refine w_not ?_ | with_reducible refine w_cmp ?_ | with_reducible refine w_and ?_ | with_reducible refine w_or ?_ | with_reducible refine w_iff ?_ | with_reducible refine w_isN ?_ | with_reducible refine w_isNN ?_ | with_reducible refine w_callC ?_ | with_reducible refine w_call ?_ | with_reducible refine w_bi ?_ | with_reducible refine w_mt ?_ | with_reducible refine w_idx ?_ | with_reducible refine w_slc ?_ | with_reducible refine w_on ?_ | with_reducible refine w_os ?_ | with_reducible refine w_rev ?_ | with_reducible refine w_sset ?_ | with_reducible refine w_lrng ?_ | with_reducible refine w_lc ?_ | with_reducible refine w_enil ?_ | with_reducible refine w_cons ?_ | with_reducible refine w_star ?_ | with_reducible refine w_ex ?_ | with_reducible refine w_rng1 ?_ | with_reducible refine w_rng2 ?_ | with_reducible refine w_enm ?_ | with_reducible refine w_sub ?_ | with_reducible refine w_dct0 ?_ | with_reducible refine w_isi ?_ | with_reducible refine w_cmp2 ?_ | with_reducible refine w_eq bin_add ?_ | with_reducible refine w_eq bi_lenP ?_ | with_reducible refine w_eq (bi_len len_tup) ?_ | with_reducible refine w_eq (bi_len len_lst) ?_ | with_reducible refine w_eq bin_sub ?_ | with_reducible refine w_eq (bin_fdiv (by decide) (by decide)) ?_ | with_reducible refine ⟨_, cmp_neB, ?_⟩ | with_reducible refine ⟨_, cmp_eqB, ?_⟩ | with_reducible refine ⟨_, cmp_neS, ?_⟩ | with_reducible refine ⟨_, cmp_eqS, ?_⟩ | with_reducible refine ⟨_, cmp_eqI, ?_⟩ | with_reducible refine ⟨_, cmp_neI, ?_⟩ | with_reducible refine ⟨_, truth_bool, ?_⟩ | with_reducible refine ⟨_, ix_pr0, ?_⟩ | with_reducible refine ⟨_, ix_pr1, ?_⟩ | with_reducible refine ⟨_, ix_book, ?_⟩ | with_reducible refine ⟨kind_new, ?_⟩ | with_reducible refine ⟨rfl, ?_⟩ | (with_reducible refine ex_id ?_; refine ⟨_, rfl, ?_⟩) | (with_reducible refine w_len ?_; refine ⟨_, rfl, ?_⟩) | (with_reducible refine w_mkT ?_; refine ⟨_, _, rfl, ?_⟩) | (with_reducible refine w_mkL ?_; refine ⟨_, _, rfl, ?_⟩))
  refine w_eq (repr_pl rfl px (by omega) (by omega)) ?_
  repeat (first | (with_reducible refine w_loc ?_; refine ⟨_, rfl, ?_⟩) | (with_reducible refine w_glo ?_; refine ⟨_, rfl, ?_⟩) | with_reducible refine w_con ?_ | with_reducible refine w_set ?_ | with_reducible refine w_ret ?_ | with_reducible refine w_expr ?_ | with_reducible refine w_unp ?_ | with_reducible refine w_par ?_ | with_reducible refine w_ite ?_ | with_reducible refine w_nx ?_ | with_reducible refine w_rt ?_ | with_reducible refine w_nil ?_ | with_reducible refine w_tup ?_ | with_reducible refine w_lst ?_ | with_reducible refine w_bin ?_ | with_reducible refine w_neg ?_ | with_reducible refine w_not ?_ | with_reducible refine w_cmp ?_ | with_reducible refine w_and ?_ | with_reducible refine w_or ?_ | with_reducible refine w_iff ?_ | with_reducible refine w_isN ?_ | with_reducible refine w_isNN ?_ | with_reducible refine w_callC ?_ | with_reducible refine w_call ?_ | with_reducible refine w_bi ?_ | with_reducible refine w_mt ?_ | with_reducible refine w_idx ?_ | with_reducible refine w_slc ?_ | with_reducible refine w_on ?_ | with_reducible refine w_os ?_ | with_reducible refine w_rev ?_ | with_reducible refine w_sset ?_ | with_reducible refine w_lrng ?_ | with_reducible refine w_lc ?_ | with_reducible refine w_enil ?_ | with_reducible refine w_cons ?_ | with_reducible refine w_star ?_ | with_reducible refine w_ex ?_ | with_reducible refine w_rng1 ?_ | with_reducible refine w_rng2 ?_ | with_reducible refine w_enm ?_ | with_reducible refine w_sub ?_ | with_reducible refine w_dct0 ?_ | with_reducible refine w_isi ?_ | with_reducible refine w_cmp2 ?_ | with_reducible refine w_eq bin_add ?_ | with_reducible refine w_eq bi_lenP ?_ | with_reducible refine w_eq (bi_len len_tup) ?_ | with_reducible refine w_eq (bi_len len_lst) ?_ | with_reducible refine w_eq bin_sub ?_ | with_reducible refine w_eq (bin_fdiv (by decide) (by decide)) ?_ | with_reducible refine ⟨_, cmp_neB, ?_⟩ | with_reducible refine ⟨_, cmp_eqB, ?_⟩ | with_reducible refine ⟨_, cmp_neS, ?_⟩ | with_reducible refine ⟨_, cmp_eqS, ?_⟩ | with_reducible refine ⟨_, cmp_eqI, ?_⟩ | with_reducible refine ⟨_, cmp_neI, ?_⟩ | with_reducible refine ⟨_, truth_bool, ?_⟩ | with_reducible refine ⟨_, ix_pr0, ?_⟩ | with_reducible refine ⟨_, ix_pr1, ?_⟩ | with_reducible refine ⟨_, ix_book, ?_⟩ | with_reducible refine ⟨kind_new, ?_⟩ | with_reducible refine ⟨rfl, ?_⟩ | (with_reducible refine ex_id ?_; refine ⟨_, rfl, ?_⟩) | (with_reducible refine w_len ?_; refine ⟨_, rfl, ?_⟩) | (with_reducible refine w_mkT ?_; refine ⟨_, _, rfl, ?_⟩) | (with_reducible refine w_mkL ?_; refine ⟨_, _, rfl, ?_⟩))
  refine conj_f (ne_self rfl) ?_
  repeat (first | (with_reducible refine w_loc ?_; refine ⟨_, rfl, ?_⟩) | (with_reducible refine w_glo ?_; refine ⟨_, rfl, ?_⟩) | with_reducible refine w_con ?_ | with_reducible refine w_set ?_ | with_reducible refine w_ret ?_ | with_reducible refine w_expr ?_ | with_reducible refine w_unp ?_ | with_reducible refine w_par ?_ | with_reducible refine w_ite ?_ | with_reducible refine w_nx ?_ | with_reducible refine w_rt ?_ | with_reducible refine w_nil ?_ | with_reducible refine w_tup ?_ | with_reducible refine w_lst ?_ | with_reducible refine w_bin ?_ | with_reducible refine w_neg ?_ | with_reducible refine w_not ?_ | with_reducible refine w_cmp ?_ | with_reducible refine w_and ?_ | with_reducible refine w_or ?_ | with_reducible refine w_iff ?_ | with_reducible refine w_isN ?_ | with_reducible refine w_isNN ?_ | with_reducible refine w_callC ?_ | with_reducible refine w_call ?_ | with_reducible refine w_bi ?_ | with_reducible refine w_mt ?_ | with_reducible refine w_idx ?_ | with_reducible refine w_slc ?_ | with_reducible refine w_on ?_ | with_reducible refine w_os ?_ | with_reducible refine w_rev ?_ | with_reducible refine w_sset ?_ | with_reducible refine w_lrng ?_ | with_reducible refine w_lc ?_ | with_reducible refine w_enil ?_ | with_reducible refine w_cons ?_ | with_reducible refine w_star ?_ | with_reducible refine w_ex ?_ | with_reducible refine w_rng1 ?_ | with_reducible refine w_rng2 ?_ | with_reducible refine w_enm ?_ | with_reducible refine w_sub ?_ | with_reducible refine w_dct0 ?_ | with_reducible refine w_isi ?_ | with_reducible refine w_cmp2 ?_ | with_reducible refine w_eq bin_add ?_ | with_reducible refine w_eq bi_lenP ?_ | with_reducible refine w_eq (bi_len len_tup) ?_ | with_reducible refine w_eq (bi_len len_lst) ?_ | with_reducible refine w_eq bin_sub ?_ | with_reducible refine w_eq (bin_fdiv (by decide) (by decide)) ?_ | with_reducible refine ⟨_, cmp_neB, ?_⟩ | with_reducible refine ⟨_, cmp_eqB, ?_⟩ | with_reducible refine ⟨_, cmp_neS, ?_⟩ | with_reducible refine ⟨_, cmp_eqS, ?_⟩ | with_reducible refine ⟨_, cmp_eqI, ?_⟩ | with_reducible refine ⟨_, cmp_neI, ?_⟩ | with_reducible refine ⟨_, truth_bool, ?_⟩ | with_reducible refine ⟨_, ix_pr0, ?_⟩ | with_reducible refine ⟨_, ix_pr1, ?_⟩ | with_reducible refine ⟨_, ix_book, ?_⟩ | with_reducible refine ⟨kind_new, ?_⟩ | with_reducible refine ⟨rfl, ?_⟩ | (with_reducible refine ex_id ?_; refine ⟨_, rfl, ?_⟩) | (with_reducible refine w_len ?_; refine ⟨_, rfl, ?_⟩) | (with_reducible refine w_mkT ?_; refine ⟨_, _, rfl, ?_⟩) | (with_reducible refine w_mkL ?_; refine ⟨_, _, rfl, ?_⟩))
  refine w_eq (repr_pl rfl pK (by omega) (by omega)) ?_
  repeat (first | (with_reducible refine w_loc ?_; refine ⟨_, rfl, ?_⟩) | (with_reducible refine w_glo ?_; refine ⟨_, rfl, ?_⟩) | with_reducible refine w_con ?_ | with_reducible refine w_set ?_ | with_reducible refine w_ret ?_ | with_reducible refine w_expr ?_ | with_reducible refine w_unp ?_ | with_reducible refine w_par ?_ | with_reducible refine w_ite ?_ | with_reducible refine w_nx ?_ | with_reducible refine w_rt ?_ | with_reducible refine w_nil ?_ | with_reducible refine w_tup ?_ | with_reducible refine w_lst ?_ | with_reducible refine w_bin ?_ | with_reducible refine w_neg ?_ | with_reducible refine w_not ?_ | with_reducible refine w_cmp ?_ | with_reducible refine w_and ?_ | with_reducible refine w_or ?_ | with_reducible refine w_iff ?_ | with_reducible refine w_isN ?_ | with_reducible refine w_isNN ?_ | with_reducible refine w_callC ?_ | with_reducible refine w_call ?_ | with_reducible refine w_bi ?_ | with_reducible refine w_mt ?_ | with_reducible refine w_idx ?_ | with_reducible refine w_slc ?_ | with_reducible refine w_on ?_ | with_reducible refine w_os ?_ | with_reducible refine w_rev ?_ | with_reducible refine w_sset ?_ | with_reducible refine w_lrng ?_ | with_reducible refine w_lc ?_ | with_reducible refine w_enil ?_ | with_reducible refine w_cons ?_ | with_reducible refine w_star ?_ | with_reducible refine w_ex ?_ | with_reducible refine w_rng1 ?_ | with_reducible refine w_rng2 ?_ | with_reducible refine w_enm ?_ | with_reducible refine w_sub ?_ | with_reducible refine w_dct0 ?_ | with_reducible refine w_isi ?_ | with_reducible refine w_cmp2 ?_ | with_reducible refine w_eq bin_add ?_ | with_reducible refine w_eq bi_lenP ?_ | with_reducible refine w_eq (bi_len len_tup) ?_ | with_reducible refine w_eq (bi_len len_lst) ?_ | with_reducible refine w_eq bin_sub ?_ | with_reducible refine w_eq (bin_fdiv (by decide) (by decide)) ?_ | with_reducible refine ⟨_, cmp_neB, ?_⟩ | with_reducible refine ⟨_, cmp_eqB, ?_⟩ | with_reducible refine ⟨_, cmp_neS, ?_⟩ | with_reducible refine ⟨_, cmp_eqS, ?_⟩ | with_reducible refine ⟨_, cmp_eqI, ?_⟩ | with_reducible refine ⟨_, cmp_neI, ?_⟩ | with_reducible refine ⟨_, truth_bool, ?_⟩ | with_reducible refine ⟨_, ix_pr0, ?_⟩ | with_reducible refine ⟨_, ix_pr1, ?_⟩ | with_reducible refine ⟨_, ix_book, ?_⟩ | with_reducible refine ⟨kind_new, ?_⟩ | with_reducible refine ⟨rfl, ?_⟩ | (with_reducible refine ex_id ?_; refine ⟨_, rfl, ?_⟩) | (with_reducible refine w_len ?_; refine ⟨_, rfl, ?_⟩) | (with_reducible refine w_mkT ?_; refine ⟨_, _, rfl, ?_⟩) | (with_reducible refine w_mkL ?_; refine ⟨_, _, rfl, ?_⟩))
  refine conj_f (ne_self rfl) ?_
  repeat (first | (with_reducible refine w_loc ?_; refine ⟨_, rfl, ?_⟩) | (with_reducible refine w_glo ?_; refine ⟨_, rfl, ?_⟩) | with_reducible refine w_con ?_ | with_reducible refine w_set ?_ | with_reducible refine w_ret ?_ | with_reducible refine w_expr ?_ | with_reducible refine w_unp ?_ | with_reducible refine w_par ?_ | with_reducible refine w_ite ?_ | with_reducible refine w_nx ?_ | with_reducible refine w_rt ?_ | with_reducible refine w_nil ?_ | with_reducible refine w_tup ?_ | with_reducible refine w_lst ?_ | with_reducible refine w_bin ?_ | with_reducible refine w_neg ?_ | with_reducible refine w_not ?_ | with_reducible refine w_cmp ?_ | with_reducible refine w_and ?_ | with_reducible refine w_or ?_ | with_reducible refine w_iff ?_ | with_reducible refine w_isN ?_ | with_reducible refine w_isNN ?_ | with_reducible refine w_callC ?_ | with_reducible refine w_call ?_ | with_reducible refine w_bi ?_ | with_reducible refine w_mt ?_ | with_reducible refine w_idx ?_ | with_reducible refine w_slc ?_ | with_reducible refine w_on ?_ | with_reducible refine w_os ?_ | with_reducible refine w_rev ?_ | with_reducible refine w_sset ?_ | with_reducible refine w_lrng ?_ | with_reducible refine w_lc ?_ | with_reducible refine w_enil ?_ | with_reducible refine w_cons ?_ | with_reducible refine w_star ?_ | with_reducible refine w_ex ?_ | with_reducible refine w_rng1 ?_ | with_reducible refine w_rng2 ?_ | with_reducible refine w_enm ?_ | with_reducible refine w_sub ?_ | with_reducible refine w_dct0 ?_ | with_reducible refine w_isi ?_ | with_reducible refine w_cmp2 ?_ | with_reducible refine w_eq bin_add ?_ | with_reducible refine w_eq bi_lenP ?_ | with_reducible refine w_eq (bi_len len_tup) ?_ | with_reducible refine w_eq (bi_len len_lst) ?_ | with_reducible refine w_eq bin_sub ?_ | with_reducible refine w_eq (bin_fdiv (by decide) (by decide)) ?_ | with_reducible refine ⟨_, cmp_neB, ?_⟩ | with_reducible refine ⟨_, cmp_eqB, ?_⟩ | with_reducible refine ⟨_, cmp_neS, ?_⟩ | with_reducible refine ⟨_, cmp_eqS, ?_⟩ | with_reducible refine ⟨_, cmp_eqI, ?_⟩ | with_reducible refine ⟨_, cmp_neI, ?_⟩ | with_reducible refine ⟨_, truth_bool, ?_⟩ | with_reducible refine ⟨_, ix_pr0, ?_⟩ | with_reducible refine ⟨_, ix_pr1, ?_⟩ | with_reducible refine ⟨_, ix_book, ?_⟩ | with_reducible refine ⟨kind_new, ?_⟩ | with_reducible refine ⟨rfl, ?_⟩ | (with_reducible refine ex_id ?_; refine ⟨_, rfl, ?_⟩) | (with_reducible refine w_len ?_; refine ⟨_, rfl, ?_⟩) | (with_reducible refine w_mkT ?_; refine ⟨_, _, rfl, ?_⟩) | (with_reducible refine w_mkL ?_; refine ⟨_, _, rfl, ?_⟩))
  refine w_eq (order_run (k := 29) (by omega)) ?_
  repeat (first | (with_reducible refine w_loc ?_; refine ⟨_, rfl, ?_⟩) | (with_reducible refine w_glo ?_; refine ⟨_, rfl, ?_⟩) | with_reducible refine w_con ?_ | with_reducible refine w_set ?_ | with_reducible refine w_ret ?_ | with_reducible refine w_expr ?_ | with_reducible refine w_unp ?_ | with_reducible refine w_par ?_ | with_reducible refine w_ite ?_ | with_reducible refine w_nx ?_ | with_reducible refine w_rt ?_ | with_reducible refine w_nil ?_ | with_reducible refine w_tup ?_ | with_reducible refine w_lst ?_ | with_reducible refine w_bin ?_ | with_reducible refine w_neg ?_ | with_reducible refine w_not ?_ | with_reducible refine w_cmp ?_ | with_reducible refine w_and ?_ | with_reducible refine w_or ?_ | with_reducible refine w_iff ?_ | with_reducible refine w_isN ?_ | with_reducible refine w_isNN ?_ | with_reducible refine w_callC ?_ | with_reducible refine w_call ?_ | with_reducible refine w_bi ?_ | with_reducible refine w_mt ?_ | with_reducible refine w_idx ?_ | with_reducible refine w_slc ?_ | with_reducible refine w_on ?_ | with_reducible refine w_os ?_ | with_reducible refine w_rev ?_ | with_reducible refine w_sset ?_ | with_reducible refine w_lrng ?_ | with_reducible refine w_lc ?_ | with_reducible refine w_enil ?_ | with_reducible refine w_cons ?_ | with_reducible refine w_star ?_ | with_reducible refine w_ex ?_ | with_reducible refine w_rng1 ?_ | with_reducible refine w_rng2 ?_ | with_reducible refine w_enm ?_ | with_reducible refine w_sub ?_ | with_reducible refine w_dct0 ?_ | with_reducible refine w_isi ?_ | with_reducible refine w_cmp2 ?_ | with_reducible refine w_eq bin_add ?_ | with_reducible refine w_eq bi_lenP ?_ | with_reducible refine w_eq (bi_len len_tup) ?_ | with_reducible refine w_eq (bi_len len_lst) ?_ | with_reducible refine w_eq bin_sub ?_ | with_reducible refine w_eq (bin_fdiv (by decide) (by decide)) ?_ | with_reducible refine ⟨_, cmp_neB, ?_⟩ | with_reducible refine ⟨_, cmp_eqB, ?_⟩ | with_reducible refine ⟨_, cmp_neS, ?_⟩ | with_reducible refine ⟨_, cmp_eqS, ?_⟩ | with_reducible refine ⟨_, cmp_eqI, ?_⟩ | with_reducible refine ⟨_, cmp_neI, ?_⟩ | with_reducible refine ⟨_, truth_bool, ?_⟩ | with_reducible refine ⟨_, ix_pr0, ?_⟩ | with_reducible refine ⟨_, ix_pr1, ?_⟩ | with_reducible refine ⟨_, ix_book, ?_⟩ | with_reducible refine ⟨kind_new, ?_⟩ | with_reducible refine ⟨rfl, ?_⟩ | (with_reducible refine ex_id ?_; refine ⟨_, rfl, ?_⟩) | (with_reducible refine w_len ?_; refine ⟨_, rfl, ?_⟩) | (with_reducible refine w_mkT ?_; refine ⟨_, _, rfl, ?_⟩) | (with_reducible refine w_mkL ?_; refine ⟨_, _, rfl, ?_⟩))
  refine w_eq (order_run (k := 29) (by omega)) ?_
  repeat (first | (with_reducible refine w_loc ?_; refine ⟨_, rfl, ?_⟩) | (with_reducible refine w_glo ?_; refine ⟨_, rfl, ?_⟩) | with_reducible refine w_con ?_ | with_reducible refine w_set ?_ | with_reducible refine w_ret ?_ | with_reducible refine w_expr ?_ | with_reducible refine w_unp ?_ | with_reducible refine w_par ?_ | with_reducible refine w_ite ?_ | with_reducible refine w_nx ?_ | with_reducible refine w_rt ?_ | with_reducible refine w_nil ?_ | with_reducible refine w_tup ?_ | with_reducible refine w_lst ?_ | with_reducible refine w_bin ?_ | with_reducible refine w_neg ?_ | with_reducible refine w_not ?_ | with_reducible refine w_cmp ?_ | with_reducible refine w_and ?_ | with_reducible refine w_or ?_ | with_reducible refine w_iff ?_ | with_reducible refine w_isN ?_ | with_reducible refine w_isNN ?_ | with_reducible refine w_callC ?_ | with_reducible refine w_call ?_ | with_reducible refine w_bi ?_ | with_reducible refine w_mt ?_ | with_reducible refine w_idx ?_ | with_reducible refine w_slc ?_ | with_reducible refine w_on ?_ | with_reducible refine w_os ?_ | with_reducible refine w_rev ?_ | with_reducible refine w_sset ?_ | with_reducible refine w_lrng ?_ | with_reducible refine w_lc ?_ | with_reducible refine w_enil ?_ | with_reducible refine w_cons ?_ | with_reducible refine w_star ?_ | with_reducible refine w_ex ?_ | with_reducible refine w_rng1 ?_ | with_reducible refine w_rng2 ?_ | with_reducible refine w_enm ?_ | with_reducible refine w_sub ?_ | with_reducible refine w_dct0 ?_ | with_reducible refine w_isi ?_ | with_reducible refine w_cmp2 ?_ | with_reducible refine w_eq bin_add ?_ | with_reducible refine w_eq bi_lenP ?_ | with_reducible refine w_eq (bi_len len_tup) ?_ | with_reducible refine w_eq (bi_len len_lst) ?_ | with_reducible refine w_eq bin_sub ?_ | with_reducible refine w_eq (bin_fdiv (by decide) (by decide)) ?_ | with_reducible refine ⟨_, cmp_neB, ?_⟩ | with_reducible refine ⟨_, cmp_eqB, ?_⟩ | with_reducible refine ⟨_, cmp_neS, ?_⟩ | with_reducible refine ⟨_, cmp_eqS, ?_⟩ | with_reducible refine ⟨_, cmp_eqI, ?_⟩ | with_reducible refine ⟨_, cmp_neI, ?_⟩ | with_reducible refine ⟨_, truth_bool, ?_⟩ | with_reducible refine ⟨_, ix_pr0, ?_⟩ | with_reducible refine ⟨_, ix_pr1, ?_⟩ | with_reducible refine ⟨_, ix_book, ?_⟩ | with_reducible refine ⟨kind_new, ?_⟩ | with_reducible refine ⟨rfl, ?_⟩ | (with_reducible refine ex_id ?_; refine ⟨_, rfl, ?_⟩) | (with_reducible refine w_len ?_; refine ⟨_, rfl, ?_⟩) | (with_reducible refine w_mkT ?_; refine ⟨_, _, rfl, ?_⟩) | (with_reducible refine w_mkL ?_; refine ⟨_, _, rfl, ?_⟩))
  refine ⟨_, cmp_eqP (io a (by omega)) (io b (by omega)), ?_⟩
  repeat (first | (with_reducible refine w_loc ?_; refine ⟨_, rfl, ?_⟩) | (with_reducible refine w_glo ?_; refine ⟨_, rfl, ?_⟩) | with_reducible refine w_con ?_ | with_reducible refine w_set ?_ | with_reducible refine w_ret ?_ | with_reducible refine w_expr ?_ | with_reducible refine w_unp ?_ | with_reducible refine w_par ?_ | with_reducible refine w_ite ?_ | with_reducible refine w_nx ?_ | with_reducible refine w_rt ?_ | with_reducible refine w_nil ?_ | with_reducible refine w_tup ?_ | with_reducible refine w_lst ?_ | with_reducible refine w_bin ?_ | with_reducible refine w_neg ?_ | with_reducible refine w_not ?_ | with_reducible refine w_cmp ?_ | with_reducible refine w_and ?_ | with_reducible refine w_or ?_ | with_reducible refine w_iff ?_ | with_reducible refine w_isN ?_ | with_reducible refine w_isNN ?_ | with_reducible refine w_callC ?_ | with_reducible refine w_call ?_ | with_reducible refine w_bi ?_ | with_reducible refine w_mt ?_ | with_reducible refine w_idx ?_ | with_reducible refine w_slc ?_ | with_reducible refine w_on ?_ | with_reducible refine w_os ?_ | with_reducible refine w_rev ?_ | with_reducible refine w_sset ?_ | with_reducible refine w_lrng ?_ | with_reducible refine w_lc ?_ | with_reducible refine w_enil ?_ | with_reducible refine w_cons ?_ | with_reducible refine w_star ?_ | with_reducible refine w_ex ?_ | with_reducible refine w_rng1 ?_ | with_reducible refine w_rng2 ?_ | with_reducible refine w_enm ?_ | with_reducible refine w_sub ?_ | with_reducible refine w_dct0 ?_ | with_reducible refine w_isi ?_ | with_reducible refine w_cmp2 ?_ | with_reducible refine w_eq bin_add ?_ | with_reducible refine w_eq bi_lenP ?_ | with_reducible refine w_eq (bi_len len_tup) ?_ | with_reducible refine w_eq (bi_len len_lst) ?_ | with_reducible refine w_eq bin_sub ?_ | with_reducible refine w_eq (bin_fdiv (by decide) (by decide)) ?_ | with_reducible refine ⟨_, cmp_neB, ?_⟩ | with_reducible refine ⟨_, cmp_eqB, ?_⟩ | with_reducible refine ⟨_, cmp_neS, ?_⟩ | with_reducible refine ⟨_, cmp_eqS, ?_⟩ | with_reducible refine ⟨_, cmp_eqI, ?_⟩ | with_reducible refine ⟨_, cmp_neI, ?_⟩ | with_reducible refine ⟨_, truth_bool, ?_⟩ | with_reducible refine ⟨_, ix_pr0, ?_⟩ | with_reducible refine ⟨_, ix_pr1, ?_⟩ | with_reducible refine ⟨_, ix_book, ?_⟩ | with_reducible refine ⟨kind_new, ?_⟩ | with_reducible refine ⟨rfl, ?_⟩ | (with_reducible refine ex_id ?_; refine ⟨_, rfl, ?_⟩) | (with_reducible refine w_len ?_; refine ⟨_, rfl, ?_⟩) | (with_reducible refine w_mkT ?_; refine ⟨_, _, rfl, ?_⟩) | (with_reducible refine w_mkL ?_; refine ⟨_, _, rfl, ?_⟩))
  refine conj_f (by simp) ?_
  repeat (first | (with_reducible refine w_loc ?_; refine ⟨_, rfl, ?_⟩) | (with_reducible refine w_glo ?_; refine ⟨_, rfl, ?_⟩) | with_reducible refine w_con ?_ | with_reducible refine w_set ?_ | with_reducible refine w_ret ?_ | with_reducible refine w_expr ?_ | with_reducible refine w_unp ?_ | with_reducible refine w_par ?_ | with_reducible refine w_ite ?_ | with_reducible refine w_nx ?_ | with_reducible refine w_rt ?_ | with_reducible refine w_nil ?_ | with_reducible refine w_tup ?_ | with_reducible refine w_lst ?_ | with_reducible refine w_bin ?_ | with_reducible refine w_neg ?_ | with_reducible refine w_not ?_ | with_reducible refine w_cmp ?_ | with_reducible refine w_and ?_ | with_reducible refine w_or ?_ | with_reducible refine w_iff ?_ | with_reducible refine w_isN ?_ | with_reducible refine w_isNN ?_ | with_reducible refine w_callC ?_ | with_reducible refine w_call ?_ | with_reducible refine w_bi ?_ | with_reducible refine w_mt ?_ | with_reducible refine w_idx ?_ | with_reducible refine w_slc ?_ | with_reducible refine w_on ?_ | with_reducible refine w_os ?_ | with_reducible refine w_rev ?_ | with_reducible refine w_sset ?_ | with_reducible refine w_lrng ?_ | with_reducible refine w_lc ?_ | with_reducible refine w_enil ?_ | with_reducible refine w_cons ?_ | with_reducible refine w_star ?_ | with_reducible refine w_ex ?_ | with_reducible refine w_rng1 ?_ | with_reducible refine w_rng2 ?_ | with_reducible refine w_enm ?_ | with_reducible refine w_sub ?_ | with_reducible refine w_dct0 ?_ | with_reducible refine w_isi ?_ | with_reducible refine w_cmp2 ?_ | with_reducible refine w_eq bin_add ?_ | with_reducible refine w_eq bi_lenP ?_ | with_reducible refine w_eq (bi_len len_tup) ?_ | with_reducible refine w_eq (bi_len len_lst) ?_ | with_reducible refine w_eq bin_sub ?_ | with_reducible refine w_eq (bin_fdiv (by decide) (by decide)) ?_ | with_reducible refine ⟨_, cmp_neB, ?_⟩ | with_reducible refine ⟨_, cmp_eqB, ?_⟩ | with_reducible refine ⟨_, cmp_neS, ?_⟩ | with_reducible refine ⟨_, cmp_eqS, ?_⟩ | with_reducible refine ⟨_, cmp_eqI, ?_⟩ | with_reducible refine ⟨_, cmp_neI, ?_⟩ | with_reducible refine ⟨_, truth_bool, ?_⟩ | with_reducible refine ⟨_, ix_pr0, ?_⟩ | with_reducible refine ⟨_, ix_pr1, ?_⟩ | with_reducible refine ⟨_, ix_book, ?_⟩ | with_reducible refine ⟨kind_new, ?_⟩ | with_reducible refine ⟨rfl, ?_⟩ | (with_reducible refine ex_id ?_; refine ⟨_, rfl, ?_⟩) | (with_reducible refine w_len ?_; refine ⟨_, rfl, ?_⟩) | (with_reducible refine w_mkT ?_; refine ⟨_, _, rfl, ?_⟩) | (with_reducible refine w_mkL ?_; refine ⟨_, _, rfl, ?_⟩))
  have last : ∀ (st : Sto), Gr st [] → Ok (evSs (⟨calls gdefs gglo 30, gglo⟩ : Ck) (dropS 9 t12) (l12 x2 (some (iv n)) (some (.d (encP a))) (some (.d (encP b))) x6 x7 (some (.d (.bool (decide (ordM a = ordM b))))) (some (.d (.str (PyData.list [encP a, encP b]).shown))) (some (.d x)) x11 x12) st) (turn P12 (⟨calls gdefs gglo 30, gglo⟩ : Ck) e12 Q12 xs) := fun st g => by
    show Ok (evSs (⟨calls gdefs gglo 30, gglo⟩ : Ck) (.cons (.loop (.name 11) _ _) _) _ st) _
    refine w_loop (fun zs en st => Gr st [] ∧ (∃ y11 y12, en = l12 x2 (some (iv n)) (some (.d (encP a))) (some (.d (encP b))) x6 x7 (some (.d (.bool (decide (ordM a = ordM b))))) (some (.d (.str (PyData.list [encP a, encP b]).shown))) (some (.d x)) y11 y12) ∧ (zs = [] ∨ (ordM a = ordM b ∧ 2 ≤ n))) ?_ (fun z zs en st ⟨g1, ⟨y11, y12, he⟩, hz⟩ => ?_) (fun en st ⟨g1, ⟨y11, y12, he⟩, hz⟩ => ?_)
    · repeat (first | (with_reducible refine w_loc ?_; refine ⟨_, rfl, ?_⟩) | (with_reducible refine w_glo ?_; refine ⟨_, rfl, ?_⟩) | with_reducible refine w_con ?_ | with_reducible refine w_set ?_ | with_reducible refine w_ret ?_ | with_reducible refine w_expr ?_ | with_reducible refine w_unp ?_ | with_reducible refine w_par ?_ | with_reducible refine w_ite ?_ | with_reducible refine w_nx ?_ | with_reducible refine w_rt ?_ | with_reducible refine w_nil ?_ | with_reducible refine w_tup ?_ | with_reducible refine w_lst ?_ | with_reducible refine w_bin ?_ | with_reducible refine w_neg ?_ | with_reducible refine w_not ?_ | with_reducible refine w_cmp ?_ | with_reducible refine w_and ?_ | with_reducible refine w_or ?_ | with_reducible refine w_iff ?_ | with_reducible refine w_isN ?_ | with_reducible refine w_isNN ?_ | with_reducible refine w_callC ?_ | with_reducible refine w_call ?_ | with_reducible refine w_bi ?_ | with_reducible refine w_mt ?_ | with_reducible refine w_idx ?_ | with_reducible refine w_slc ?_ | with_reducible refine w_on ?_ | with_reducible refine w_os ?_ | with_reducible refine w_rev ?_ | with_reducible refine w_sset ?_ | with_reducible refine w_lrng ?_ | with_reducible refine w_lc ?_ | with_reducible refine w_enil ?_ | with_reducible refine w_cons ?_ | with_reducible refine w_star ?_ | with_reducible refine w_ex ?_ | with_reducible refine w_rng1 ?_ | with_reducible refine w_rng2 ?_ | with_reducible refine w_enm ?_ | with_reducible refine w_sub ?_ | with_reducible refine w_dct0 ?_ | with_reducible refine w_isi ?_ | with_reducible refine w_cmp2 ?_ | with_reducible refine w_eq bin_add ?_ | with_reducible refine w_eq bi_lenP ?_ | with_reducible refine w_eq (bi_len len_tup) ?_ | with_reducible refine w_eq (bi_len len_lst) ?_ | with_reducible refine w_eq bin_sub ?_ | with_reducible refine w_eq (bin_fdiv (by decide) (by decide)) ?_ | with_reducible refine ⟨_, cmp_neB, ?_⟩ | with_reducible refine ⟨_, cmp_eqB, ?_⟩ | with_reducible refine ⟨_, cmp_neS, ?_⟩ | with_reducible refine ⟨_, cmp_eqS, ?_⟩ | with_reducible refine ⟨_, cmp_eqI, ?_⟩ | with_reducible refine ⟨_, cmp_neI, ?_⟩ | with_reducible refine ⟨_, truth_bool, ?_⟩ | with_reducible refine ⟨_, ix_pr0, ?_⟩ | with_reducible refine ⟨_, ix_pr1, ?_⟩ | with_reducible refine ⟨_, ix_book, ?_⟩ | with_reducible refine ⟨kind_new, ?_⟩ | with_reducible refine ⟨rfl, ?_⟩ | (with_reducible refine ex_id ?_; refine ⟨_, rfl, ?_⟩) | (with_reducible refine w_len ?_; refine ⟨_, rfl, ?_⟩) | (with_reducible refine w_mkT ?_; refine ⟨_, _, rfl, ?_⟩) | (with_reducible refine w_mkL ?_; refine ⟨_, _, rfl, ?_⟩))
      refine ⟨fun ho => ?_, fun ho => ?_⟩
      · repeat (first | (with_reducible refine w_loc ?_; refine ⟨_, rfl, ?_⟩) | (with_reducible refine w_glo ?_; refine ⟨_, rfl, ?_⟩) | with_reducible refine w_con ?_ | with_reducible refine w_set ?_ | with_reducible refine w_ret ?_ | with_reducible refine w_expr ?_ | with_reducible refine w_unp ?_ | with_reducible refine w_par ?_ | with_reducible refine w_ite ?_ | with_reducible refine w_nx ?_ | with_reducible refine w_rt ?_ | with_reducible refine w_nil ?_ | with_reducible refine w_tup ?_ | with_reducible refine w_lst ?_ | with_reducible refine w_bin ?_ | with_reducible refine w_neg ?_ | with_reducible refine w_not ?_ | with_reducible refine w_cmp ?_ | with_reducible refine w_and ?_ | with_reducible refine w_or ?_ | with_reducible refine w_iff ?_ | with_reducible refine w_isN ?_ | with_reducible refine w_isNN ?_ | with_reducible refine w_callC ?_ | with_reducible refine w_call ?_ | with_reducible refine w_bi ?_ | with_reducible refine w_mt ?_ | with_reducible refine w_idx ?_ | with_reducible refine w_slc ?_ | with_reducible refine w_on ?_ | with_reducible refine w_os ?_ | with_reducible refine w_rev ?_ | with_reducible refine w_sset ?_ | with_reducible refine w_lrng ?_ | with_reducible refine w_lc ?_ | with_reducible refine w_enil ?_ | with_reducible refine w_cons ?_ | with_reducible refine w_star ?_ | with_reducible refine w_ex ?_ | with_reducible refine w_rng1 ?_ | with_reducible refine w_rng2 ?_ | with_reducible refine w_enm ?_ | with_reducible refine w_sub ?_ | with_reducible refine w_dct0 ?_ | with_reducible refine w_isi ?_ | with_reducible refine w_cmp2 ?_ | with_reducible refine w_eq bin_add ?_ | with_reducible refine w_eq bi_lenP ?_ | with_reducible refine w_eq (bi_len len_tup) ?_ | with_reducible refine w_eq (bi_len len_lst) ?_ | with_reducible refine w_eq bin_sub ?_ | with_reducible refine w_eq (bin_fdiv (by decide) (by decide)) ?_ | with_reducible refine ⟨_, cmp_neB, ?_⟩ | with_reducible refine ⟨_, cmp_eqB, ?_⟩ | with_reducible refine ⟨_, cmp_neS, ?_⟩ | with_reducible refine ⟨_, cmp_eqS, ?_⟩ | with_reducible refine ⟨_, cmp_eqI, ?_⟩ | with_reducible refine ⟨_, cmp_neI, ?_⟩ | with_reducible refine ⟨_, truth_bool, ?_⟩ | with_reducible refine ⟨_, ix_pr0, ?_⟩ | with_reducible refine ⟨_, ix_pr1, ?_⟩ | with_reducible refine ⟨_, ix_book, ?_⟩ | with_reducible refine ⟨kind_new, ?_⟩ | with_reducible refine ⟨rfl, ?_⟩ | (with_reducible refine ex_id ?_; refine ⟨_, rfl, ?_⟩) | (with_reducible refine w_len ?_; refine ⟨_, rfl, ?_⟩) | (with_reducible refine w_mkT ?_; refine ⟨_, _, rfl, ?_⟩) | (with_reducible refine w_mkL ?_; refine ⟨_, _, rfl, ?_⟩))
        refine ⟨fun h2 => ?_, fun h2 => ?_⟩
        · repeat (first | (with_reducible refine w_loc ?_; refine ⟨_, rfl, ?_⟩) | (with_reducible refine w_glo ?_; refine ⟨_, rfl, ?_⟩) | with_reducible refine w_con ?_ | with_reducible refine w_set ?_ | with_reducible refine w_ret ?_ | with_reducible refine w_expr ?_ | with_reducible refine w_unp ?_ | with_reducible refine w_par ?_ | with_reducible refine w_ite ?_ | with_reducible refine w_nx ?_ | with_reducible refine w_rt ?_ | with_reducible refine w_nil ?_ | with_reducible refine w_tup ?_ | with_reducible refine w_lst ?_ | with_reducible refine w_bin ?_ | with_reducible refine w_neg ?_ | with_reducible refine w_not ?_ | with_reducible refine w_cmp ?_ | with_reducible refine w_and ?_ | with_reducible refine w_or ?_ | with_reducible refine w_iff ?_ | with_reducible refine w_isN ?_ | with_reducible refine w_isNN ?_ | with_reducible refine w_callC ?_ | with_reducible refine w_call ?_ | with_reducible refine w_bi ?_ | with_reducible refine w_mt ?_ | with_reducible refine w_idx ?_ | with_reducible refine w_slc ?_ | with_reducible refine w_on ?_ | with_reducible refine w_os ?_ | with_reducible refine w_rev ?_ | with_reducible refine w_sset ?_ | with_reducible refine w_lrng ?_ | with_reducible refine w_lc ?_ | with_reducible refine w_enil ?_ | with_reducible refine w_cons ?_ | with_reducible refine w_star ?_ | with_reducible refine w_ex ?_ | with_reducible refine w_rng1 ?_ | with_reducible refine w_rng2 ?_ | with_reducible refine w_enm ?_ | with_reducible refine w_sub ?_ | with_reducible refine w_dct0 ?_ | with_reducible refine w_isi ?_ | with_reducible refine w_cmp2 ?_ | with_reducible refine w_eq bin_add ?_ | with_reducible refine w_eq bi_lenP ?_ | with_reducible refine w_eq (bi_len len_tup) ?_ | with_reducible refine w_eq (bi_len len_lst) ?_ | with_reducible refine w_eq bin_sub ?_ | with_reducible refine w_eq (bin_fdiv (by decide) (by decide)) ?_ | with_reducible refine ⟨_, cmp_neB, ?_⟩ | with_reducible refine ⟨_, cmp_eqB, ?_⟩ | with_reducible refine ⟨_, cmp_neS, ?_⟩ | with_reducible refine ⟨_, cmp_eqS, ?_⟩ | with_reducible refine ⟨_, cmp_eqI, ?_⟩ | with_reducible refine ⟨_, cmp_neI, ?_⟩ | with_reducible refine ⟨_, truth_bool, ?_⟩ | with_reducible refine ⟨_, ix_pr0, ?_⟩ | with_reducible refine ⟨_, ix_pr1, ?_⟩ | with_reducible refine ⟨_, ix_book, ?_⟩ | with_reducible refine ⟨kind_new, ?_⟩ | with_reducible refine ⟨rfl, ?_⟩ | (with_reducible refine ex_id ?_; refine ⟨_, rfl, ?_⟩) | (with_reducible refine w_len ?_; refine ⟨_, rfl, ?_⟩) | (with_reducible refine w_mkT ?_; refine ⟨_, _, rfl, ?_⟩) | (with_reducible refine w_mkL ?_; refine ⟨_, _, rfl, ?_⟩))
          exact ⟨by decide, by decide, _, rfl, g, ⟨_, _, rfl⟩, .inr ⟨of_decide_eq_true ho, by have := of_decide_eq_true h2; omega⟩⟩
        · repeat (first | (with_reducible refine w_loc ?_; refine ⟨_, rfl, ?_⟩) | (with_reducible refine w_glo ?_; refine ⟨_, rfl, ?_⟩) | with_reducible refine w_con ?_ | with_reducible refine w_set ?_ | with_reducible refine w_ret ?_ | with_reducible refine w_expr ?_ | with_reducible refine w_unp ?_ | with_reducible refine w_par ?_ | with_reducible refine w_ite ?_ | with_reducible refine w_nx ?_ | with_reducible refine w_rt ?_ | with_reducible refine w_nil ?_ | with_reducible refine w_tup ?_ | with_reducible refine w_lst ?_ | with_reducible refine w_bin ?_ | with_reducible refine w_neg ?_ | with_reducible refine w_not ?_ | with_reducible refine w_cmp ?_ | with_reducible refine w_and ?_ | with_reducible refine w_or ?_ | with_reducible refine w_iff ?_ | with_reducible refine w_isN ?_ | with_reducible refine w_isNN ?_ | with_reducible refine w_callC ?_ | with_reducible refine w_call ?_ | with_reducible refine w_bi ?_ | with_reducible refine w_mt ?_ | with_reducible refine w_idx ?_ | with_reducible refine w_slc ?_ | with_reducible refine w_on ?_ | with_reducible refine w_os ?_ | with_reducible refine w_rev ?_ | with_reducible refine w_sset ?_ | with_reducible refine w_lrng ?_ | with_reducible refine w_lc ?_ | with_reducible refine w_enil ?_ | with_reducible refine w_cons ?_ | with_reducible refine w_star ?_ | with_reducible refine w_ex ?_ | with_reducible refine w_rng1 ?_ | with_reducible refine w_rng2 ?_ | with_reducible refine w_enm ?_ | with_reducible refine w_sub ?_ | with_reducible refine w_dct0 ?_ | with_reducible refine w_isi ?_ | with_reducible refine w_cmp2 ?_ | with_reducible refine w_eq bin_add ?_ | with_reducible refine w_eq bi_lenP ?_ | with_reducible refine w_eq (bi_len len_tup) ?_ | with_reducible refine w_eq (bi_len len_lst) ?_ | with_reducible refine w_eq bin_sub ?_ | with_reducible refine w_eq (bin_fdiv (by decide) (by decide)) ?_ | with_reducible refine ⟨_, cmp_neB, ?_⟩ | with_reducible refine ⟨_, cmp_eqB, ?_⟩ | with_reducible refine ⟨_, cmp_neS, ?_⟩ | with_reducible refine ⟨_, cmp_eqS, ?_⟩ | with_reducible refine ⟨_, cmp_eqI, ?_⟩ | with_reducible refine ⟨_, cmp_neI, ?_⟩ | with_reducible refine ⟨_, truth_bool, ?_⟩ | with_reducible refine ⟨_, ix_pr0, ?_⟩ | with_reducible refine ⟨_, ix_pr1, ?_⟩ | with_reducible refine ⟨_, ix_book, ?_⟩ | with_reducible refine ⟨kind_new, ?_⟩ | with_reducible refine ⟨rfl, ?_⟩ | (with_reducible refine ex_id ?_; refine ⟨_, rfl, ?_⟩) | (with_reducible refine w_len ?_; refine ⟨_, rfl, ?_⟩) | (with_reducible refine w_mkT ?_; refine ⟨_, _, rfl, ?_⟩) | (with_reducible refine w_mkL ?_; refine ⟨_, _, rfl, ?_⟩))
          exact ⟨by decide, by decide, _, rfl, g, ⟨_, _, rfl⟩, .inl rfl⟩
      · repeat (first | (with_reducible refine w_loc ?_; refine ⟨_, rfl, ?_⟩) | (with_reducible refine w_glo ?_; refine ⟨_, rfl, ?_⟩) | with_reducible refine w_con ?_ | with_reducible refine w_set ?_ | with_reducible refine w_ret ?_ | with_reducible refine w_expr ?_ | with_reducible refine w_unp ?_ | with_reducible refine w_par ?_ | with_reducible refine w_ite ?_ | with_reducible refine w_nx ?_ | with_reducible refine w_rt ?_ | with_reducible refine w_nil ?_ | with_reducible refine w_tup ?_ | with_reducible refine w_lst ?_ | with_reducible refine w_bin ?_ | with_reducible refine w_neg ?_ | with_reducible refine w_not ?_ | with_reducible refine w_cmp ?_ | with_reducible refine w_and ?_ | with_reducible refine w_or ?_ | with_reducible refine w_iff ?_ | with_reducible refine w_isN ?_ | with_reducible refine w_isNN ?_ | with_reducible refine w_callC ?_ | with_reducible refine w_call ?_ | with_reducible refine w_bi ?_ | with_reducible refine w_mt ?_ | with_reducible refine w_idx ?_ | with_reducible refine w_slc ?_ | with_reducible refine w_on ?_ | with_reducible refine w_os ?_ | with_reducible refine w_rev ?_ | with_reducible refine w_sset ?_ | with_reducible refine w_lrng ?_ | with_reducible refine w_lc ?_ | with_reducible refine w_enil ?_ | with_reducible refine w_cons ?_ | with_reducible refine w_star ?_ | with_reducible refine w_ex ?_ | with_reducible refine w_rng1 ?_ | with_reducible refine w_rng2 ?_ | with_reducible refine w_enm ?_ | with_reducible refine w_sub ?_ | with_reducible refine w_dct0 ?_ | with_reducible refine w_isi ?_ | with_reducible refine w_cmp2 ?_ | with_reducible refine w_eq bin_add ?_ | with_reducible refine w_eq bi_lenP ?_ | with_reducible refine w_eq (bi_len len_tup) ?_ | with_reducible refine w_eq (bi_len len_lst) ?_ | with_reducible refine w_eq bin_sub ?_ | with_reducible refine w_eq (bin_fdiv (by decide) (by decide)) ?_ | with_reducible refine ⟨_, cmp_neB, ?_⟩ | with_reducible refine ⟨_, cmp_eqB, ?_⟩ | with_reducible refine ⟨_, cmp_neS, ?_⟩ | with_reducible refine ⟨_, cmp_eqS, ?_⟩ | with_reducible refine ⟨_, cmp_eqI, ?_⟩ | with_reducible refine ⟨_, cmp_neI, ?_⟩ | with_reducible refine ⟨_, truth_bool, ?_⟩ | with_reducible refine ⟨_, ix_pr0, ?_⟩ | with_reducible refine ⟨_, ix_pr1, ?_⟩ | with_reducible refine ⟨_, ix_book, ?_⟩ | with_reducible refine ⟨kind_new, ?_⟩ | with_reducible refine ⟨rfl, ?_⟩ | (with_reducible refine ex_id ?_; refine ⟨_, rfl, ?_⟩) | (with_reducible refine w_len ?_; refine ⟨_, rfl, ?_⟩) | (with_reducible refine w_mkT ?_; refine ⟨_, _, rfl, ?_⟩) | (with_reducible refine w_mkL ?_; refine ⟨_, _, rfl, ?_⟩))
        refine conj_f ho ?_
        repeat (first | (with_reducible refine w_loc ?_; refine ⟨_, rfl, ?_⟩) | (with_reducible refine w_glo ?_; refine ⟨_, rfl, ?_⟩) | with_reducible refine w_con ?_ | with_reducible refine w_set ?_ | with_reducible refine w_ret ?_ | with_reducible refine w_expr ?_ | with_reducible refine w_unp ?_ | with_reducible refine w_par ?_ | with_reducible refine w_ite ?_ | with_reducible refine w_nx ?_ | with_reducible refine w_rt ?_ | with_reducible refine w_nil ?_ | with_reducible refine w_tup ?_ | with_reducible refine w_lst ?_ | with_reducible refine w_bin ?_ | with_reducible refine w_neg ?_ | with_reducible refine w_not ?_ | with_reducible refine w_cmp ?_ | with_reducible refine w_and ?_ | with_reducible refine w_or ?_ | with_reducible refine w_iff ?_ | with_reducible refine w_isN ?_ | with_reducible refine w_isNN ?_ | with_reducible refine w_callC ?_ | with_reducible refine w_call ?_ | with_reducible refine w_bi ?_ | with_reducible refine w_mt ?_ | with_reducible refine w_idx ?_ | with_reducible refine w_slc ?_ | with_reducible refine w_on ?_ | with_reducible refine w_os ?_ | with_reducible refine w_rev ?_ | with_reducible refine w_sset ?_ | with_reducible refine w_lrng ?_ | with_reducible refine w_lc ?_ | with_reducible refine w_enil ?_ | with_reducible refine w_cons ?_ | with_reducible refine w_star ?_ | with_reducible refine w_ex ?_ | with_reducible refine w_rng1 ?_ | with_reducible refine w_rng2 ?_ | with_reducible refine w_enm ?_ | with_reducible refine w_sub ?_ | with_reducible refine w_dct0 ?_ | with_reducible refine w_isi ?_ | with_reducible refine w_cmp2 ?_ | with_reducible refine w_eq bin_add ?_ | with_reducible refine w_eq bi_lenP ?_ | with_reducible refine w_eq (bi_len len_tup) ?_ | with_reducible refine w_eq (bi_len len_lst) ?_ | with_reducible refine w_eq bin_sub ?_ | with_reducible refine w_eq (bin_fdiv (by decide) (by decide)) ?_ | with_reducible refine ⟨_, cmp_neB, ?_⟩ | with_reducible refine ⟨_, cmp_eqB, ?_⟩ | with_reducible refine ⟨_, cmp_neS, ?_⟩ | with_reducible refine ⟨_, cmp_eqS, ?_⟩ | with_reducible refine ⟨_, cmp_eqI, ?_⟩ | with_reducible refine ⟨_, cmp_neI, ?_⟩ | with_reducible refine ⟨_, truth_bool, ?_⟩ | with_reducible refine ⟨_, ix_pr0, ?_⟩ | with_reducible refine ⟨_, ix_pr1, ?_⟩ | with_reducible refine ⟨_, ix_book, ?_⟩ | with_reducible refine ⟨kind_new, ?_⟩ | with_reducible refine ⟨rfl, ?_⟩ | (with_reducible refine ex_id ?_; refine ⟨_, rfl, ?_⟩) | (with_reducible refine w_len ?_; refine ⟨_, rfl, ?_⟩) | (with_reducible refine w_mkT ?_; refine ⟨_, _, rfl, ?_⟩) | (with_reducible refine w_mkL ?_; refine ⟨_, _, rfl, ?_⟩))
        exact ⟨by decide, by decide, _, rfl, g, ⟨_, _, rfl⟩, .inl rfl⟩
    · rcases hz with hz | ⟨ho, h2⟩
      · cases hz
      subst he
      refine ⟨_, rfl, ?_⟩
      repeat (first | (with_reducible refine w_loc ?_; refine ⟨_, rfl, ?_⟩) | (with_reducible refine w_glo ?_; refine ⟨_, rfl, ?_⟩) | with_reducible refine w_con ?_ | with_reducible refine w_set ?_ | with_reducible refine w_ret ?_ | with_reducible refine w_expr ?_ | with_reducible refine w_unp ?_ | with_reducible refine w_par ?_ | with_reducible refine w_ite ?_ | with_reducible refine w_nx ?_ | with_reducible refine w_rt ?_ | with_reducible refine w_nil ?_ | with_reducible refine w_tup ?_ | with_reducible refine w_lst ?_ | with_reducible refine w_bin ?_ | with_reducible refine w_neg ?_ | with_reducible refine w_not ?_ | with_reducible refine w_cmp ?_ | with_reducible refine w_and ?_ | with_reducible refine w_or ?_ | with_reducible refine w_iff ?_ | with_reducible refine w_isN ?_ | with_reducible refine w_isNN ?_ | with_reducible refine w_callC ?_ | with_reducible refine w_call ?_ | with_reducible refine w_bi ?_ | with_reducible refine w_mt ?_ | with_reducible refine w_idx ?_ | with_reducible refine w_slc ?_ | with_reducible refine w_on ?_ | with_reducible refine w_os ?_ | with_reducible refine w_rev ?_ | with_reducible refine w_sset ?_ | with_reducible refine w_lrng ?_ | with_reducible refine w_lc ?_ | with_reducible refine w_enil ?_ | with_reducible refine w_cons ?_ | with_reducible refine w_star ?_ | with_reducible refine w_ex ?_ | with_reducible refine w_rng1 ?_ | with_reducible refine w_rng2 ?_ | with_reducible refine w_enm ?_ | with_reducible refine w_sub ?_ | with_reducible refine w_dct0 ?_ | with_reducible refine w_isi ?_ | with_reducible refine w_cmp2 ?_ | with_reducible refine w_eq bin_add ?_ | with_reducible refine w_eq bi_lenP ?_ | with_reducible refine w_eq (bi_len len_tup) ?_ | with_reducible refine w_eq (bi_len len_lst) ?_ | with_reducible refine w_eq bin_sub ?_ | with_reducible refine w_eq (bin_fdiv (by decide) (by decide)) ?_ | with_reducible refine ⟨_, cmp_neB, ?_⟩ | with_reducible refine ⟨_, cmp_eqB, ?_⟩ | with_reducible refine ⟨_, cmp_neS, ?_⟩ | with_reducible refine ⟨_, cmp_eqS, ?_⟩ | with_reducible refine ⟨_, cmp_eqI, ?_⟩ | with_reducible refine ⟨_, cmp_neI, ?_⟩ | with_reducible refine ⟨_, truth_bool, ?_⟩ | with_reducible refine ⟨_, ix_pr0, ?_⟩ | with_reducible refine ⟨_, ix_pr1, ?_⟩ | with_reducible refine ⟨_, ix_book, ?_⟩ | with_reducible refine ⟨kind_new, ?_⟩ | with_reducible refine ⟨rfl, ?_⟩ | (with_reducible refine ex_id ?_; refine ⟨_, rfl, ?_⟩) | (with_reducible refine w_len ?_; refine ⟨_, rfl, ?_⟩) | (with_reducible refine w_mkT ?_; refine ⟨_, _, rfl, ?_⟩) | (with_reducible refine w_mkL ?_; refine ⟨_, _, rfl, ?_⟩))
      obtain ⟨v, st1, e1, g2, s, rfl, hs, ht⟩ := say_ok (k := 27) (n := n) (most := 3) h2 (by omega) (by omega) (by omega) g1
      refine w_eq e1 ?_
      repeat (first | (with_reducible refine w_loc ?_; refine ⟨_, rfl, ?_⟩) | (with_reducible refine w_glo ?_; refine ⟨_, rfl, ?_⟩) | with_reducible refine w_con ?_ | with_reducible refine w_set ?_ | with_reducible refine w_ret ?_ | with_reducible refine w_expr ?_ | with_reducible refine w_unp ?_ | with_reducible refine w_par ?_ | with_reducible refine w_ite ?_ | with_reducible refine w_nx ?_ | with_reducible refine w_rt ?_ | with_reducible refine w_nil ?_ | with_reducible refine w_tup ?_ | with_reducible refine w_lst ?_ | with_reducible refine w_bin ?_ | with_reducible refine w_neg ?_ | with_reducible refine w_not ?_ | with_reducible refine w_cmp ?_ | with_reducible refine w_and ?_ | with_reducible refine w_or ?_ | with_reducible refine w_iff ?_ | with_reducible refine w_isN ?_ | with_reducible refine w_isNN ?_ | with_reducible refine w_callC ?_ | with_reducible refine w_call ?_ | with_reducible refine w_bi ?_ | with_reducible refine w_mt ?_ | with_reducible refine w_idx ?_ | with_reducible refine w_slc ?_ | with_reducible refine w_on ?_ | with_reducible refine w_os ?_ | with_reducible refine w_rev ?_ | with_reducible refine w_sset ?_ | with_reducible refine w_lrng ?_ | with_reducible refine w_lc ?_ | with_reducible refine w_enil ?_ | with_reducible refine w_cons ?_ | with_reducible refine w_star ?_ | with_reducible refine w_ex ?_ | with_reducible refine w_rng1 ?_ | with_reducible refine w_rng2 ?_ | with_reducible refine w_enm ?_ | with_reducible refine w_sub ?_ | with_reducible refine w_dct0 ?_ | with_reducible refine w_isi ?_ | with_reducible refine w_cmp2 ?_ | with_reducible refine w_eq bin_add ?_ | with_reducible refine w_eq bi_lenP ?_ | with_reducible refine w_eq (bi_len len_tup) ?_ | with_reducible refine w_eq (bi_len len_lst) ?_ | with_reducible refine w_eq bin_sub ?_ | with_reducible refine w_eq (bin_fdiv (by decide) (by decide)) ?_ | with_reducible refine ⟨_, cmp_neB, ?_⟩ | with_reducible refine ⟨_, cmp_eqB, ?_⟩ | with_reducible refine ⟨_, cmp_neS, ?_⟩ | with_reducible refine ⟨_, cmp_eqS, ?_⟩ | with_reducible refine ⟨_, cmp_eqI, ?_⟩ | with_reducible refine ⟨_, cmp_neI, ?_⟩ | with_reducible refine ⟨_, truth_bool, ?_⟩ | with_reducible refine ⟨_, ix_pr0, ?_⟩ | with_reducible refine ⟨_, ix_pr1, ?_⟩ | with_reducible refine ⟨_, ix_book, ?_⟩ | with_reducible refine ⟨kind_new, ?_⟩ | with_reducible refine ⟨rfl, ?_⟩ | (with_reducible refine ex_id ?_; refine ⟨_, rfl, ?_⟩) | (with_reducible refine w_len ?_; refine ⟨_, rfl, ?_⟩) | (with_reducible refine w_mkT ?_; refine ⟨_, _, rfl, ?_⟩) | (with_reducible refine w_mkL ?_; refine ⟨_, _, rfl, ?_⟩))
      have ka : s.Ok a.length := by rw [ha]; exact hs
      have kb : s.Ok b.length := by rw [hb]; exact hs
      have ke : keepsM s b = keepsM s a := by rw [← keeps_ord ka, ← keeps_ord kb, ho]
      have p2 : Pl 1 10 (.list [.bool (keepsM s a), .bool (keepsM s a)]) := (Pl.list (n := 0) (b := 0) (plA_cons (Pl.bool _) (plA_cons (Pl.bool _) plA_nil))).mono (by omega) (by simp)
      refine w_eq (keeps_run (k := 29) ka) ?_
      repeat (first | (with_reducible refine w_loc ?_; refine ⟨_, rfl, ?_⟩) | (with_reducible refine w_glo ?_; refine ⟨_, rfl, ?_⟩) | with_reducible refine w_con ?_ | with_reducible refine w_set ?_ | with_reducible refine w_ret ?_ | with_reducible refine w_expr ?_ | with_reducible refine w_unp ?_ | with_reducible refine w_par ?_ | with_reducible refine w_ite ?_ | with_reducible refine w_nx ?_ | with_reducible refine w_rt ?_ | with_reducible refine w_nil ?_ | with_reducible refine w_tup ?_ | with_reducible refine w_lst ?_ | with_reducible refine w_bin ?_ | with_reducible refine w_neg ?_ | with_reducible refine w_not ?_ | with_reducible refine w_cmp ?_ | with_reducible refine w_and ?_ | with_reducible refine w_or ?_ | with_reducible refine w_iff ?_ | with_reducible refine w_isN ?_ | with_reducible refine w_isNN ?_ | with_reducible refine w_callC ?_ | with_reducible refine w_call ?_ | with_reducible refine w_bi ?_ | with_reducible refine w_mt ?_ | with_reducible refine w_idx ?_ | with_reducible refine w_slc ?_ | with_reducible refine w_on ?_ | with_reducible refine w_os ?_ | with_reducible refine w_rev ?_ | with_reducible refine w_sset ?_ | with_reducible refine w_lrng ?_ | with_reducible refine w_lc ?_ | with_reducible refine w_enil ?_ | with_reducible refine w_cons ?_ | with_reducible refine w_star ?_ | with_reducible refine w_ex ?_ | with_reducible refine w_rng1 ?_ | with_reducible refine w_rng2 ?_ | with_reducible refine w_enm ?_ | with_reducible refine w_sub ?_ | with_reducible refine w_dct0 ?_ | with_reducible refine w_isi ?_ | with_reducible refine w_cmp2 ?_ | with_reducible refine w_eq bin_add ?_ | with_reducible refine w_eq bi_lenP ?_ | with_reducible refine w_eq (bi_len len_tup) ?_ | with_reducible refine w_eq (bi_len len_lst) ?_ | with_reducible refine w_eq bin_sub ?_ | with_reducible refine w_eq (bin_fdiv (by decide) (by decide)) ?_ | with_reducible refine ⟨_, cmp_neB, ?_⟩ | with_reducible refine ⟨_, cmp_eqB, ?_⟩ | with_reducible refine ⟨_, cmp_neS, ?_⟩ | with_reducible refine ⟨_, cmp_eqS, ?_⟩ | with_reducible refine ⟨_, cmp_eqI, ?_⟩ | with_reducible refine ⟨_, cmp_neI, ?_⟩ | with_reducible refine ⟨_, truth_bool, ?_⟩ | with_reducible refine ⟨_, ix_pr0, ?_⟩ | with_reducible refine ⟨_, ix_pr1, ?_⟩ | with_reducible refine ⟨_, ix_book, ?_⟩ | with_reducible refine ⟨kind_new, ?_⟩ | with_reducible refine ⟨rfl, ?_⟩ | (with_reducible refine ex_id ?_; refine ⟨_, rfl, ?_⟩) | (with_reducible refine w_len ?_; refine ⟨_, rfl, ?_⟩) | (with_reducible refine w_mkT ?_; refine ⟨_, _, rfl, ?_⟩) | (with_reducible refine w_mkL ?_; refine ⟨_, _, rfl, ?_⟩))
      refine w_eq (keeps_run (k := 29) kb) ?_
      rw [ke]
      repeat (first | (with_reducible refine w_loc ?_; refine ⟨_, rfl, ?_⟩) | (with_reducible refine w_glo ?_; refine ⟨_, rfl, ?_⟩) | with_reducible refine w_con ?_ | with_reducible refine w_set ?_ | with_reducible refine w_ret ?_ | with_reducible refine w_expr ?_ | with_reducible refine w_unp ?_ | with_reducible refine w_par ?_ | with_reducible refine w_ite ?_ | with_reducible refine w_nx ?_ | with_reducible refine w_rt ?_ | with_reducible refine w_nil ?_ | with_reducible refine w_tup ?_ | with_reducible refine w_lst ?_ | with_reducible refine w_bin ?_ | with_reducible refine w_neg ?_ | with_reducible refine w_not ?_ | with_reducible refine w_cmp ?_ | with_reducible refine w_and ?_ | with_reducible refine w_or ?_ | with_reducible refine w_iff ?_ | with_reducible refine w_isN ?_ | with_reducible refine w_isNN ?_ | with_reducible refine w_callC ?_ | with_reducible refine w_call ?_ | with_reducible refine w_bi ?_ | with_reducible refine w_mt ?_ | with_reducible refine w_idx ?_ | with_reducible refine w_slc ?_ | with_reducible refine w_on ?_ | with_reducible refine w_os ?_ | with_reducible refine w_rev ?_ | with_reducible refine w_sset ?_ | with_reducible refine w_lrng ?_ | with_reducible refine w_lc ?_ | with_reducible refine w_enil ?_ | with_reducible refine w_cons ?_ | with_reducible refine w_star ?_ | with_reducible refine w_ex ?_ | with_reducible refine w_rng1 ?_ | with_reducible refine w_rng2 ?_ | with_reducible refine w_enm ?_ | with_reducible refine w_sub ?_ | with_reducible refine w_dct0 ?_ | with_reducible refine w_isi ?_ | with_reducible refine w_cmp2 ?_ | with_reducible refine w_eq bin_add ?_ | with_reducible refine w_eq bi_lenP ?_ | with_reducible refine w_eq (bi_len len_tup) ?_ | with_reducible refine w_eq (bi_len len_lst) ?_ | with_reducible refine w_eq bin_sub ?_ | with_reducible refine w_eq (bin_fdiv (by decide) (by decide)) ?_ | with_reducible refine ⟨_, cmp_neB, ?_⟩ | with_reducible refine ⟨_, cmp_eqB, ?_⟩ | with_reducible refine ⟨_, cmp_neS, ?_⟩ | with_reducible refine ⟨_, cmp_eqS, ?_⟩ | with_reducible refine ⟨_, cmp_eqI, ?_⟩ | with_reducible refine ⟨_, cmp_neI, ?_⟩ | with_reducible refine ⟨_, truth_bool, ?_⟩ | with_reducible refine ⟨_, ix_pr0, ?_⟩ | with_reducible refine ⟨_, ix_pr1, ?_⟩ | with_reducible refine ⟨_, ix_book, ?_⟩ | with_reducible refine ⟨kind_new, ?_⟩ | with_reducible refine ⟨rfl, ?_⟩ | (with_reducible refine ex_id ?_; refine ⟨_, rfl, ?_⟩) | (with_reducible refine w_len ?_; refine ⟨_, rfl, ?_⟩) | (with_reducible refine w_mkT ?_; refine ⟨_, _, rfl, ?_⟩) | (with_reducible refine w_mkL ?_; refine ⟨_, _, rfl, ?_⟩))
      refine w_eq (repr_pl rfl p2 (by omega) (by omega)) ?_
      repeat (first | (with_reducible refine w_loc ?_; refine ⟨_, rfl, ?_⟩) | (with_reducible refine w_glo ?_; refine ⟨_, rfl, ?_⟩) | with_reducible refine w_con ?_ | with_reducible refine w_set ?_ | with_reducible refine w_ret ?_ | with_reducible refine w_expr ?_ | with_reducible refine w_unp ?_ | with_reducible refine w_par ?_ | with_reducible refine w_ite ?_ | with_reducible refine w_nx ?_ | with_reducible refine w_rt ?_ | with_reducible refine w_nil ?_ | with_reducible refine w_tup ?_ | with_reducible refine w_lst ?_ | with_reducible refine w_bin ?_ | with_reducible refine w_neg ?_ | with_reducible refine w_not ?_ | with_reducible refine w_cmp ?_ | with_reducible refine w_and ?_ | with_reducible refine w_or ?_ | with_reducible refine w_iff ?_ | with_reducible refine w_isN ?_ | with_reducible refine w_isNN ?_ | with_reducible refine w_callC ?_ | with_reducible refine w_call ?_ | with_reducible refine w_bi ?_ | with_reducible refine w_mt ?_ | with_reducible refine w_idx ?_ | with_reducible refine w_slc ?_ | with_reducible refine w_on ?_ | with_reducible refine w_os ?_ | with_reducible refine w_rev ?_ | with_reducible refine w_sset ?_ | with_reducible refine w_lrng ?_ | with_reducible refine w_lc ?_ | with_reducible refine w_enil ?_ | with_reducible refine w_cons ?_ | with_reducible refine w_star ?_ | with_reducible refine w_ex ?_ | with_reducible refine w_rng1 ?_ | with_reducible refine w_rng2 ?_ | with_reducible refine w_enm ?_ | with_reducible refine w_sub ?_ | with_reducible refine w_dct0 ?_ | with_reducible refine w_isi ?_ | with_reducible refine w_cmp2 ?_ | with_reducible refine w_eq bin_add ?_ | with_reducible refine w_eq bi_lenP ?_ | with_reducible refine w_eq (bi_len len_tup) ?_ | with_reducible refine w_eq (bi_len len_lst) ?_ | with_reducible refine w_eq bin_sub ?_ | with_reducible refine w_eq (bin_fdiv (by decide) (by decide)) ?_ | with_reducible refine ⟨_, cmp_neB, ?_⟩ | with_reducible refine ⟨_, cmp_eqB, ?_⟩ | with_reducible refine ⟨_, cmp_neS, ?_⟩ | with_reducible refine ⟨_, cmp_eqS, ?_⟩ | with_reducible refine ⟨_, cmp_eqI, ?_⟩ | with_reducible refine ⟨_, cmp_neI, ?_⟩ | with_reducible refine ⟨_, truth_bool, ?_⟩ | with_reducible refine ⟨_, ix_pr0, ?_⟩ | with_reducible refine ⟨_, ix_pr1, ?_⟩ | with_reducible refine ⟨_, ix_book, ?_⟩ | with_reducible refine ⟨kind_new, ?_⟩ | with_reducible refine ⟨rfl, ?_⟩ | (with_reducible refine ex_id ?_; refine ⟨_, rfl, ?_⟩) | (with_reducible refine w_len ?_; refine ⟨_, rfl, ?_⟩) | (with_reducible refine w_mkT ?_; refine ⟨_, _, rfl, ?_⟩) | (with_reducible refine w_mkL ?_; refine ⟨_, _, rfl, ?_⟩))
      refine w_eq (lkeeps_run (k := 29) ka) ?_
      repeat (first | (with_reducible refine w_loc ?_; refine ⟨_, rfl, ?_⟩) | (with_reducible refine w_glo ?_; refine ⟨_, rfl, ?_⟩) | with_reducible refine w_con ?_ | with_reducible refine w_set ?_ | with_reducible refine w_ret ?_ | with_reducible refine w_expr ?_ | with_reducible refine w_unp ?_ | with_reducible refine w_par ?_ | with_reducible refine w_ite ?_ | with_reducible refine w_nx ?_ | with_reducible refine w_rt ?_ | with_reducible refine w_nil ?_ | with_reducible refine w_tup ?_ | with_reducible refine w_lst ?_ | with_reducible refine w_bin ?_ | with_reducible refine w_neg ?_ | with_reducible refine w_not ?_ | with_reducible refine w_cmp ?_ | with_reducible refine w_and ?_ | with_reducible refine w_or ?_ | with_reducible refine w_iff ?_ | with_reducible refine w_isN ?_ | with_reducible refine w_isNN ?_ | with_reducible refine w_callC ?_ | with_reducible refine w_call ?_ | with_reducible refine w_bi ?_ | with_reducible refine w_mt ?_ | with_reducible refine w_idx ?_ | with_reducible refine w_slc ?_ | with_reducible refine w_on ?_ | with_reducible refine w_os ?_ | with_reducible refine w_rev ?_ | with_reducible refine w_sset ?_ | with_reducible refine w_lrng ?_ | with_reducible refine w_lc ?_ | with_reducible refine w_enil ?_ | with_reducible refine w_cons ?_ | with_reducible refine w_star ?_ | with_reducible refine w_ex ?_ | with_reducible refine w_rng1 ?_ | with_reducible refine w_rng2 ?_ | with_reducible refine w_enm ?_ | with_reducible refine w_sub ?_ | with_reducible refine w_dct0 ?_ | with_reducible refine w_isi ?_ | with_reducible refine w_cmp2 ?_ | with_reducible refine w_eq bin_add ?_ | with_reducible refine w_eq bi_lenP ?_ | with_reducible refine w_eq (bi_len len_tup) ?_ | with_reducible refine w_eq (bi_len len_lst) ?_ | with_reducible refine w_eq bin_sub ?_ | with_reducible refine w_eq (bin_fdiv (by decide) (by decide)) ?_ | with_reducible refine ⟨_, cmp_neB, ?_⟩ | with_reducible refine ⟨_, cmp_eqB, ?_⟩ | with_reducible refine ⟨_, cmp_neS, ?_⟩ | with_reducible refine ⟨_, cmp_eqS, ?_⟩ | with_reducible refine ⟨_, cmp_eqI, ?_⟩ | with_reducible refine ⟨_, cmp_neI, ?_⟩ | with_reducible refine ⟨_, truth_bool, ?_⟩ | with_reducible refine ⟨_, ix_pr0, ?_⟩ | with_reducible refine ⟨_, ix_pr1, ?_⟩ | with_reducible refine ⟨_, ix_book, ?_⟩ | with_reducible refine ⟨kind_new, ?_⟩ | with_reducible refine ⟨rfl, ?_⟩ | (with_reducible refine ex_id ?_; refine ⟨_, rfl, ?_⟩) | (with_reducible refine w_len ?_; refine ⟨_, rfl, ?_⟩) | (with_reducible refine w_mkT ?_; refine ⟨_, _, rfl, ?_⟩) | (with_reducible refine w_mkL ?_; refine ⟨_, _, rfl, ?_⟩))
      refine w_eq (a := .d (.list [.bool (keepsM s a), .bool (keepsM s a)])) rfl ?_
      repeat (first | (with_reducible refine w_loc ?_; refine ⟨_, rfl, ?_⟩) | (with_reducible refine w_glo ?_; refine ⟨_, rfl, ?_⟩) | with_reducible refine w_con ?_ | with_reducible refine w_set ?_ | with_reducible refine w_ret ?_ | with_reducible refine w_expr ?_ | with_reducible refine w_unp ?_ | with_reducible refine w_par ?_ | with_reducible refine w_ite ?_ | with_reducible refine w_nx ?_ | with_reducible refine w_rt ?_ | with_reducible refine w_nil ?_ | with_reducible refine w_tup ?_ | with_reducible refine w_lst ?_ | with_reducible refine w_bin ?_ | with_reducible refine w_neg ?_ | with_reducible refine w_not ?_ | with_reducible refine w_cmp ?_ | with_reducible refine w_and ?_ | with_reducible refine w_or ?_ | with_reducible refine w_iff ?_ | with_reducible refine w_isN ?_ | with_reducible refine w_isNN ?_ | with_reducible refine w_callC ?_ | with_reducible refine w_call ?_ | with_reducible refine w_bi ?_ | with_reducible refine w_mt ?_ | with_reducible refine w_idx ?_ | with_reducible refine w_slc ?_ | with_reducible refine w_on ?_ | with_reducible refine w_os ?_ | with_reducible refine w_rev ?_ | with_reducible refine w_sset ?_ | with_reducible refine w_lrng ?_ | with_reducible refine w_lc ?_ | with_reducible refine w_enil ?_ | with_reducible refine w_cons ?_ | with_reducible refine w_star ?_ | with_reducible refine w_ex ?_ | with_reducible refine w_rng1 ?_ | with_reducible refine w_rng2 ?_ | with_reducible refine w_enm ?_ | with_reducible refine w_sub ?_ | with_reducible refine w_dct0 ?_ | with_reducible refine w_isi ?_ | with_reducible refine w_cmp2 ?_ | with_reducible refine w_eq bin_add ?_ | with_reducible refine w_eq bi_lenP ?_ | with_reducible refine w_eq (bi_len len_tup) ?_ | with_reducible refine w_eq (bi_len len_lst) ?_ | with_reducible refine w_eq bin_sub ?_ | with_reducible refine w_eq (bin_fdiv (by decide) (by decide)) ?_ | with_reducible refine ⟨_, cmp_neB, ?_⟩ | with_reducible refine ⟨_, cmp_eqB, ?_⟩ | with_reducible refine ⟨_, cmp_neS, ?_⟩ | with_reducible refine ⟨_, cmp_eqS, ?_⟩ | with_reducible refine ⟨_, cmp_eqI, ?_⟩ | with_reducible refine ⟨_, cmp_neI, ?_⟩ | with_reducible refine ⟨_, truth_bool, ?_⟩ | with_reducible refine ⟨_, ix_pr0, ?_⟩ | with_reducible refine ⟨_, ix_pr1, ?_⟩ | with_reducible refine ⟨_, ix_book, ?_⟩ | with_reducible refine ⟨kind_new, ?_⟩ | with_reducible refine ⟨rfl, ?_⟩ | (with_reducible refine ex_id ?_; refine ⟨_, rfl, ?_⟩) | (with_reducible refine w_len ?_; refine ⟨_, rfl, ?_⟩) | (with_reducible refine w_mkT ?_; refine ⟨_, _, rfl, ?_⟩) | (with_reducible refine w_mkL ?_; refine ⟨_, _, rfl, ?_⟩))
      refine w_eq (repr_pl rfl p2 (by omega) (by omega)) ?_
      repeat (first | (with_reducible refine w_loc ?_; refine ⟨_, rfl, ?_⟩) | (with_reducible refine w_glo ?_; refine ⟨_, rfl, ?_⟩) | with_reducible refine w_con ?_ | with_reducible refine w_set ?_ | with_reducible refine w_ret ?_ | with_reducible refine w_expr ?_ | with_reducible refine w_unp ?_ | with_reducible refine w_par ?_ | with_reducible refine w_ite ?_ | with_reducible refine w_nx ?_ | with_reducible refine w_rt ?_ | with_reducible refine w_nil ?_ | with_reducible refine w_tup ?_ | with_reducible refine w_lst ?_ | with_reducible refine w_bin ?_ | with_reducible refine w_neg ?_ | with_reducible refine w_not ?_ | with_reducible refine w_cmp ?_ | with_reducible refine w_and ?_ | with_reducible refine w_or ?_ | with_reducible refine w_iff ?_ | with_reducible refine w_isN ?_ | with_reducible refine w_isNN ?_ | with_reducible refine w_callC ?_ | with_reducible refine w_call ?_ | with_reducible refine w_bi ?_ | with_reducible refine w_mt ?_ | with_reducible refine w_idx ?_ | with_reducible refine w_slc ?_ | with_reducible refine w_on ?_ | with_reducible refine w_os ?_ | with_reducible refine w_rev ?_ | with_reducible refine w_sset ?_ | with_reducible refine w_lrng ?_ | with_reducible refine w_lc ?_ | with_reducible refine w_enil ?_ | with_reducible refine w_cons ?_ | with_reducible refine w_star ?_ | with_reducible refine w_ex ?_ | with_reducible refine w_rng1 ?_ | with_reducible refine w_rng2 ?_ | with_reducible refine w_enm ?_ | with_reducible refine w_sub ?_ | with_reducible refine w_dct0 ?_ | with_reducible refine w_isi ?_ | with_reducible refine w_cmp2 ?_ | with_reducible refine w_eq bin_add ?_ | with_reducible refine w_eq bi_lenP ?_ | with_reducible refine w_eq (bi_len len_tup) ?_ | with_reducible refine w_eq (bi_len len_lst) ?_ | with_reducible refine w_eq bin_sub ?_ | with_reducible refine w_eq (bin_fdiv (by decide) (by decide)) ?_ | with_reducible refine ⟨_, cmp_neB, ?_⟩ | with_reducible refine ⟨_, cmp_eqB, ?_⟩ | with_reducible refine ⟨_, cmp_neS, ?_⟩ | with_reducible refine ⟨_, cmp_eqS, ?_⟩ | with_reducible refine ⟨_, cmp_eqI, ?_⟩ | with_reducible refine ⟨_, cmp_neI, ?_⟩ | with_reducible refine ⟨_, truth_bool, ?_⟩ | with_reducible refine ⟨_, ix_pr0, ?_⟩ | with_reducible refine ⟨_, ix_pr1, ?_⟩ | with_reducible refine ⟨_, ix_book, ?_⟩ | with_reducible refine ⟨kind_new, ?_⟩ | with_reducible refine ⟨rfl, ?_⟩ | (with_reducible refine ex_id ?_; refine ⟨_, rfl, ?_⟩) | (with_reducible refine w_len ?_; refine ⟨_, rfl, ?_⟩) | (with_reducible refine w_mkT ?_; refine ⟨_, _, rfl, ?_⟩) | (with_reducible refine w_mkL ?_; refine ⟨_, _, rfl, ?_⟩))
      refine conj_f (ne_self rfl) ?_
      repeat (first | (with_reducible refine w_loc ?_; refine ⟨_, rfl, ?_⟩) | (with_reducible refine w_glo ?_; refine ⟨_, rfl, ?_⟩) | with_reducible refine w_con ?_ | with_reducible refine w_set ?_ | with_reducible refine w_ret ?_ | with_reducible refine w_expr ?_ | with_reducible refine w_unp ?_ | with_reducible refine w_par ?_ | with_reducible refine w_ite ?_ | with_reducible refine w_nx ?_ | with_reducible refine w_rt ?_ | with_reducible refine w_nil ?_ | with_reducible refine w_tup ?_ | with_reducible refine w_lst ?_ | with_reducible refine w_bin ?_ | with_reducible refine w_neg ?_ | with_reducible refine w_not ?_ | with_reducible refine w_cmp ?_ | with_reducible refine w_and ?_ | with_reducible refine w_or ?_ | with_reducible refine w_iff ?_ | with_reducible refine w_isN ?_ | with_reducible refine w_isNN ?_ | with_reducible refine w_callC ?_ | with_reducible refine w_call ?_ | with_reducible refine w_bi ?_ | with_reducible refine w_mt ?_ | with_reducible refine w_idx ?_ | with_reducible refine w_slc ?_ | with_reducible refine w_on ?_ | with_reducible refine w_os ?_ | with_reducible refine w_rev ?_ | with_reducible refine w_sset ?_ | with_reducible refine w_lrng ?_ | with_reducible refine w_lc ?_ | with_reducible refine w_enil ?_ | with_reducible refine w_cons ?_ | with_reducible refine w_star ?_ | with_reducible refine w_ex ?_ | with_reducible refine w_rng1 ?_ | with_reducible refine w_rng2 ?_ | with_reducible refine w_enm ?_ | with_reducible refine w_sub ?_ | with_reducible refine w_dct0 ?_ | with_reducible refine w_isi ?_ | with_reducible refine w_cmp2 ?_ | with_reducible refine w_eq bin_add ?_ | with_reducible refine w_eq bi_lenP ?_ | with_reducible refine w_eq (bi_len len_tup) ?_ | with_reducible refine w_eq (bi_len len_lst) ?_ | with_reducible refine w_eq bin_sub ?_ | with_reducible refine w_eq (bin_fdiv (by decide) (by decide)) ?_ | with_reducible refine ⟨_, cmp_neB, ?_⟩ | with_reducible refine ⟨_, cmp_eqB, ?_⟩ | with_reducible refine ⟨_, cmp_neS, ?_⟩ | with_reducible refine ⟨_, cmp_eqS, ?_⟩ | with_reducible refine ⟨_, cmp_eqI, ?_⟩ | with_reducible refine ⟨_, cmp_neI, ?_⟩ | with_reducible refine ⟨_, truth_bool, ?_⟩ | with_reducible refine ⟨_, ix_pr0, ?_⟩ | with_reducible refine ⟨_, ix_pr1, ?_⟩ | with_reducible refine ⟨_, ix_book, ?_⟩ | with_reducible refine ⟨kind_new, ?_⟩ | with_reducible refine ⟨rfl, ?_⟩ | (with_reducible refine ex_id ?_; refine ⟨_, rfl, ?_⟩) | (with_reducible refine w_len ?_; refine ⟨_, rfl, ?_⟩) | (with_reducible refine w_mkT ?_; refine ⟨_, _, rfl, ?_⟩) | (with_reducible refine w_mkL ?_; refine ⟨_, _, rfl, ?_⟩))
      exact ⟨g2, ⟨_, _, rfl⟩, .inr ⟨ho, h2⟩⟩
    · subst he
      repeat (first | (with_reducible refine w_loc ?_; refine ⟨_, rfl, ?_⟩) | (with_reducible refine w_glo ?_; refine ⟨_, rfl, ?_⟩) | with_reducible refine w_con ?_ | with_reducible refine w_set ?_ | with_reducible refine w_ret ?_ | with_reducible refine w_expr ?_ | with_reducible refine w_unp ?_ | with_reducible refine w_par ?_ | with_reducible refine w_ite ?_ | with_reducible refine w_nx ?_ | with_reducible refine w_rt ?_ | with_reducible refine w_nil ?_ | with_reducible refine w_tup ?_ | with_reducible refine w_lst ?_ | with_reducible refine w_bin ?_ | with_reducible refine w_neg ?_ | with_reducible refine w_not ?_ | with_reducible refine w_cmp ?_ | with_reducible refine w_and ?_ | with_reducible refine w_or ?_ | with_reducible refine w_iff ?_ | with_reducible refine w_isN ?_ | with_reducible refine w_isNN ?_ | with_reducible refine w_callC ?_ | with_reducible refine w_call ?_ | with_reducible refine w_bi ?_ | with_reducible refine w_mt ?_ | with_reducible refine w_idx ?_ | with_reducible refine w_slc ?_ | with_reducible refine w_on ?_ | with_reducible refine w_os ?_ | with_reducible refine w_rev ?_ | with_reducible refine w_sset ?_ | with_reducible refine w_lrng ?_ | with_reducible refine w_lc ?_ | with_reducible refine w_enil ?_ | with_reducible refine w_cons ?_ | with_reducible refine w_star ?_ | with_reducible refine w_ex ?_ | with_reducible refine w_rng1 ?_ | with_reducible refine w_rng2 ?_ | with_reducible refine w_enm ?_ | with_reducible refine w_sub ?_ | with_reducible refine w_dct0 ?_ | with_reducible refine w_isi ?_ | with_reducible refine w_cmp2 ?_ | with_reducible refine w_eq bin_add ?_ | with_reducible refine w_eq bi_lenP ?_ | with_reducible refine w_eq (bi_len len_tup) ?_ | with_reducible refine w_eq (bi_len len_lst) ?_ | with_reducible refine w_eq bin_sub ?_ | with_reducible refine w_eq (bin_fdiv (by decide) (by decide)) ?_ | with_reducible refine ⟨_, cmp_neB, ?_⟩ | with_reducible refine ⟨_, cmp_eqB, ?_⟩ | with_reducible refine ⟨_, cmp_neS, ?_⟩ | with_reducible refine ⟨_, cmp_eqS, ?_⟩ | with_reducible refine ⟨_, cmp_eqI, ?_⟩ | with_reducible refine ⟨_, cmp_neI, ?_⟩ | with_reducible refine ⟨_, truth_bool, ?_⟩ | with_reducible refine ⟨_, ix_pr0, ?_⟩ | with_reducible refine ⟨_, ix_pr1, ?_⟩ | with_reducible refine ⟨_, ix_book, ?_⟩ | with_reducible refine ⟨kind_new, ?_⟩ | with_reducible refine ⟨rfl, ?_⟩ | (with_reducible refine ex_id ?_; refine ⟨_, rfl, ?_⟩) | (with_reducible refine w_len ?_; refine ⟨_, rfl, ?_⟩) | (with_reducible refine w_mkT ?_; refine ⟨_, _, rfl, ?_⟩) | (with_reducible refine w_mkL ?_; refine ⟨_, _, rfl, ?_⟩))
      exact ⟨g1, _, _, _, _, _, _, _, _, _, _, _, rfl⟩
  rcases hx with ⟨rfl, h⟩ | ⟨u, v, rfl, hu0, hu, hv0, hv, hn⟩
  · refine conj_f rfl ?_
    repeat (first | (with_reducible refine w_loc ?_; refine ⟨_, rfl, ?_⟩) | (with_reducible refine w_glo ?_; refine ⟨_, rfl, ?_⟩) | with_reducible refine w_con ?_ | with_reducible refine w_set ?_ | with_reducible refine w_ret ?_ | with_reducible refine w_expr ?_ | with_reducible refine w_unp ?_ | with_reducible refine w_par ?_ | with_reducible refine w_ite ?_ | with_reducible refine w_nx ?_ | with_reducible refine w_rt ?_ | with_reducible refine w_nil ?_ | with_reducible refine w_tup ?_ | with_reducible refine w_lst ?_ | with_reducible refine w_bin ?_ | with_reducible refine w_neg ?_ | with_reducible refine w_not ?_ | with_reducible refine w_cmp ?_ | with_reducible refine w_and ?_ | with_reducible refine w_or ?_ | with_reducible refine w_iff ?_ | with_reducible refine w_isN ?_ | with_reducible refine w_isNN ?_ | with_reducible refine w_callC ?_ | with_reducible refine w_call ?_ | with_reducible refine w_bi ?_ | with_reducible refine w_mt ?_ | with_reducible refine w_idx ?_ | with_reducible refine w_slc ?_ | with_reducible refine w_on ?_ | with_reducible refine w_os ?_ | with_reducible refine w_rev ?_ | with_reducible refine w_sset ?_ | with_reducible refine w_lrng ?_ | with_reducible refine w_lc ?_ | with_reducible refine w_enil ?_ | with_reducible refine w_cons ?_ | with_reducible refine w_star ?_ | with_reducible refine w_ex ?_ | with_reducible refine w_rng1 ?_ | with_reducible refine w_rng2 ?_ | with_reducible refine w_enm ?_ | with_reducible refine w_sub ?_ | with_reducible refine w_dct0 ?_ | with_reducible refine w_isi ?_ | with_reducible refine w_cmp2 ?_ | with_reducible refine w_eq bin_add ?_ | with_reducible refine w_eq bi_lenP ?_ | with_reducible refine w_eq (bi_len len_tup) ?_ | with_reducible refine w_eq (bi_len len_lst) ?_ | with_reducible refine w_eq bin_sub ?_ | with_reducible refine w_eq (bin_fdiv (by decide) (by decide)) ?_ | with_reducible refine ⟨_, cmp_neB, ?_⟩ | with_reducible refine ⟨_, cmp_eqB, ?_⟩ | with_reducible refine ⟨_, cmp_neS, ?_⟩ | with_reducible refine ⟨_, cmp_eqS, ?_⟩ | with_reducible refine ⟨_, cmp_eqI, ?_⟩ | with_reducible refine ⟨_, cmp_neI, ?_⟩ | with_reducible refine ⟨_, truth_bool, ?_⟩ | with_reducible refine ⟨_, ix_pr0, ?_⟩ | with_reducible refine ⟨_, ix_pr1, ?_⟩ | with_reducible refine ⟨_, ix_book, ?_⟩ | with_reducible refine ⟨kind_new, ?_⟩ | with_reducible refine ⟨rfl, ?_⟩ | (with_reducible refine ex_id ?_; refine ⟨_, rfl, ?_⟩) | (with_reducible refine w_len ?_; refine ⟨_, rfl, ?_⟩) | (with_reducible refine w_mkT ?_; refine ⟨_, _, rfl, ?_⟩) | (with_reducible refine w_mkL ?_; refine ⟨_, _, rfl, ?_⟩))
    exact last _ g
  · refine conj_t rfl ?_
    have huv : u ≠ v := fun e => hn (by rw [e]; unfold agr; rw [decide_eq_true (Int.le_refl _), decide_eq_true (Int.le_refl _)])
    have hok : ∀ c : List Int, c.length = a.length → (⟨[], some (u, v)⟩ : Say).Ok c.length := fun c hc => ⟨fun p h => (by cases h), fun p h => by cases h; exact ⟨hu0, by show u < _; omega, hv0, by show v < _; omega⟩, Nat.zero_le _⟩
    have hkk : (keepsM ⟨[], some (u, v)⟩ a == keepsM ⟨[], some (u, v)⟩ b) = false := beq_eq_false_iff_ne.mpr hn
    repeat (first | (with_reducible refine w_loc ?_; refine ⟨_, rfl, ?_⟩) | (with_reducible refine w_glo ?_; refine ⟨_, rfl, ?_⟩) | with_reducible refine w_con ?_ | with_reducible refine w_set ?_ | with_reducible refine w_ret ?_ | with_reducible refine w_expr ?_ | with_reducible refine w_unp ?_ | with_reducible refine w_par ?_ | with_reducible refine w_ite ?_ | with_reducible refine w_nx ?_ | with_reducible refine w_rt ?_ | with_reducible refine w_nil ?_ | with_reducible refine w_tup ?_ | with_reducible refine w_lst ?_ | with_reducible refine w_bin ?_ | with_reducible refine w_neg ?_ | with_reducible refine w_not ?_ | with_reducible refine w_cmp ?_ | with_reducible refine w_and ?_ | with_reducible refine w_or ?_ | with_reducible refine w_iff ?_ | with_reducible refine w_isN ?_ | with_reducible refine w_isNN ?_ | with_reducible refine w_callC ?_ | with_reducible refine w_call ?_ | with_reducible refine w_bi ?_ | with_reducible refine w_mt ?_ | with_reducible refine w_idx ?_ | with_reducible refine w_slc ?_ | with_reducible refine w_on ?_ | with_reducible refine w_os ?_ | with_reducible refine w_rev ?_ | with_reducible refine w_sset ?_ | with_reducible refine w_lrng ?_ | with_reducible refine w_lc ?_ | with_reducible refine w_enil ?_ | with_reducible refine w_cons ?_ | with_reducible refine w_star ?_ | with_reducible refine w_ex ?_ | with_reducible refine w_rng1 ?_ | with_reducible refine w_rng2 ?_ | with_reducible refine w_enm ?_ | with_reducible refine w_sub ?_ | with_reducible refine w_dct0 ?_ | with_reducible refine w_isi ?_ | with_reducible refine w_cmp2 ?_ | with_reducible refine w_eq bin_add ?_ | with_reducible refine w_eq bi_lenP ?_ | with_reducible refine w_eq (bi_len len_tup) ?_ | with_reducible refine w_eq (bi_len len_lst) ?_ | with_reducible refine w_eq bin_sub ?_ | with_reducible refine w_eq (bin_fdiv (by decide) (by decide)) ?_ | with_reducible refine ⟨_, cmp_neB, ?_⟩ | with_reducible refine ⟨_, cmp_eqB, ?_⟩ | with_reducible refine ⟨_, cmp_neS, ?_⟩ | with_reducible refine ⟨_, cmp_eqS, ?_⟩ | with_reducible refine ⟨_, cmp_eqI, ?_⟩ | with_reducible refine ⟨_, cmp_neI, ?_⟩ | with_reducible refine ⟨_, truth_bool, ?_⟩ | with_reducible refine ⟨_, ix_pr0, ?_⟩ | with_reducible refine ⟨_, ix_pr1, ?_⟩ | with_reducible refine ⟨_, ix_book, ?_⟩ | with_reducible refine ⟨kind_new, ?_⟩ | with_reducible refine ⟨rfl, ?_⟩ | (with_reducible refine ex_id ?_; refine ⟨_, rfl, ?_⟩) | (with_reducible refine w_len ?_; refine ⟨_, rfl, ?_⟩) | (with_reducible refine w_mkT ?_; refine ⟨_, _, rfl, ?_⟩) | (with_reducible refine w_mkL ?_; refine ⟨_, _, rfl, ?_⟩))
    refine w_eq (issay_run (k := 29) (n := n) (u := u) (v := v) hu0 (by omega) hv0 (by omega) huv (by omega)) ?_
    repeat (first | (with_reducible refine w_loc ?_; refine ⟨_, rfl, ?_⟩) | (with_reducible refine w_glo ?_; refine ⟨_, rfl, ?_⟩) | with_reducible refine w_con ?_ | with_reducible refine w_set ?_ | with_reducible refine w_ret ?_ | with_reducible refine w_expr ?_ | with_reducible refine w_unp ?_ | with_reducible refine w_par ?_ | with_reducible refine w_ite ?_ | with_reducible refine w_nx ?_ | with_reducible refine w_rt ?_ | with_reducible refine w_nil ?_ | with_reducible refine w_tup ?_ | with_reducible refine w_lst ?_ | with_reducible refine w_bin ?_ | with_reducible refine w_neg ?_ | with_reducible refine w_not ?_ | with_reducible refine w_cmp ?_ | with_reducible refine w_and ?_ | with_reducible refine w_or ?_ | with_reducible refine w_iff ?_ | with_reducible refine w_isN ?_ | with_reducible refine w_isNN ?_ | with_reducible refine w_callC ?_ | with_reducible refine w_call ?_ | with_reducible refine w_bi ?_ | with_reducible refine w_mt ?_ | with_reducible refine w_idx ?_ | with_reducible refine w_slc ?_ | with_reducible refine w_on ?_ | with_reducible refine w_os ?_ | with_reducible refine w_rev ?_ | with_reducible refine w_sset ?_ | with_reducible refine w_lrng ?_ | with_reducible refine w_lc ?_ | with_reducible refine w_enil ?_ | with_reducible refine w_cons ?_ | with_reducible refine w_star ?_ | with_reducible refine w_ex ?_ | with_reducible refine w_rng1 ?_ | with_reducible refine w_rng2 ?_ | with_reducible refine w_enm ?_ | with_reducible refine w_sub ?_ | with_reducible refine w_dct0 ?_ | with_reducible refine w_isi ?_ | with_reducible refine w_cmp2 ?_ | with_reducible refine w_eq bin_add ?_ | with_reducible refine w_eq bi_lenP ?_ | with_reducible refine w_eq (bi_len len_tup) ?_ | with_reducible refine w_eq (bi_len len_lst) ?_ | with_reducible refine w_eq bin_sub ?_ | with_reducible refine w_eq (bin_fdiv (by decide) (by decide)) ?_ | with_reducible refine ⟨_, cmp_neB, ?_⟩ | with_reducible refine ⟨_, cmp_eqB, ?_⟩ | with_reducible refine ⟨_, cmp_neS, ?_⟩ | with_reducible refine ⟨_, cmp_eqS, ?_⟩ | with_reducible refine ⟨_, cmp_eqI, ?_⟩ | with_reducible refine ⟨_, cmp_neI, ?_⟩ | with_reducible refine ⟨_, truth_bool, ?_⟩ | with_reducible refine ⟨_, ix_pr0, ?_⟩ | with_reducible refine ⟨_, ix_pr1, ?_⟩ | with_reducible refine ⟨_, ix_book, ?_⟩ | with_reducible refine ⟨kind_new, ?_⟩ | with_reducible refine ⟨rfl, ?_⟩ | (with_reducible refine ex_id ?_; refine ⟨_, rfl, ?_⟩) | (with_reducible refine w_len ?_; refine ⟨_, rfl, ?_⟩) | (with_reducible refine w_mkT ?_; refine ⟨_, _, rfl, ?_⟩) | (with_reducible refine w_mkL ?_; refine ⟨_, _, rfl, ?_⟩))
    refine conj_f rfl ?_
    repeat (first | (with_reducible refine w_loc ?_; refine ⟨_, rfl, ?_⟩) | (with_reducible refine w_glo ?_; refine ⟨_, rfl, ?_⟩) | with_reducible refine w_con ?_ | with_reducible refine w_set ?_ | with_reducible refine w_ret ?_ | with_reducible refine w_expr ?_ | with_reducible refine w_unp ?_ | with_reducible refine w_par ?_ | with_reducible refine w_ite ?_ | with_reducible refine w_nx ?_ | with_reducible refine w_rt ?_ | with_reducible refine w_nil ?_ | with_reducible refine w_tup ?_ | with_reducible refine w_lst ?_ | with_reducible refine w_bin ?_ | with_reducible refine w_neg ?_ | with_reducible refine w_not ?_ | with_reducible refine w_cmp ?_ | with_reducible refine w_and ?_ | with_reducible refine w_or ?_ | with_reducible refine w_iff ?_ | with_reducible refine w_isN ?_ | with_reducible refine w_isNN ?_ | with_reducible refine w_callC ?_ | with_reducible refine w_call ?_ | with_reducible refine w_bi ?_ | with_reducible refine w_mt ?_ | with_reducible refine w_idx ?_ | with_reducible refine w_slc ?_ | with_reducible refine w_on ?_ | with_reducible refine w_os ?_ | with_reducible refine w_rev ?_ | with_reducible refine w_sset ?_ | with_reducible refine w_lrng ?_ | with_reducible refine w_lc ?_ | with_reducible refine w_enil ?_ | with_reducible refine w_cons ?_ | with_reducible refine w_star ?_ | with_reducible refine w_ex ?_ | with_reducible refine w_rng1 ?_ | with_reducible refine w_rng2 ?_ | with_reducible refine w_enm ?_ | with_reducible refine w_sub ?_ | with_reducible refine w_dct0 ?_ | with_reducible refine w_isi ?_ | with_reducible refine w_cmp2 ?_ | with_reducible refine w_eq bin_add ?_ | with_reducible refine w_eq bi_lenP ?_ | with_reducible refine w_eq (bi_len len_tup) ?_ | with_reducible refine w_eq (bi_len len_lst) ?_ | with_reducible refine w_eq bin_sub ?_ | with_reducible refine w_eq (bin_fdiv (by decide) (by decide)) ?_ | with_reducible refine ⟨_, cmp_neB, ?_⟩ | with_reducible refine ⟨_, cmp_eqB, ?_⟩ | with_reducible refine ⟨_, cmp_neS, ?_⟩ | with_reducible refine ⟨_, cmp_eqS, ?_⟩ | with_reducible refine ⟨_, cmp_eqI, ?_⟩ | with_reducible refine ⟨_, cmp_neI, ?_⟩ | with_reducible refine ⟨_, truth_bool, ?_⟩ | with_reducible refine ⟨_, ix_pr0, ?_⟩ | with_reducible refine ⟨_, ix_pr1, ?_⟩ | with_reducible refine ⟨_, ix_book, ?_⟩ | with_reducible refine ⟨kind_new, ?_⟩ | with_reducible refine ⟨rfl, ?_⟩ | (with_reducible refine ex_id ?_; refine ⟨_, rfl, ?_⟩) | (with_reducible refine w_len ?_; refine ⟨_, rfl, ?_⟩) | (with_reducible refine w_mkT ?_; refine ⟨_, _, rfl, ?_⟩) | (with_reducible refine w_mkL ?_; refine ⟨_, _, rfl, ?_⟩))
    refine w_eq (lkeeps_run (k := 29) (hok a rfl)) ?_
    repeat (first | (with_reducible refine w_loc ?_; refine ⟨_, rfl, ?_⟩) | (with_reducible refine w_glo ?_; refine ⟨_, rfl, ?_⟩) | with_reducible refine w_con ?_ | with_reducible refine w_set ?_ | with_reducible refine w_ret ?_ | with_reducible refine w_expr ?_ | with_reducible refine w_unp ?_ | with_reducible refine w_par ?_ | with_reducible refine w_ite ?_ | with_reducible refine w_nx ?_ | with_reducible refine w_rt ?_ | with_reducible refine w_nil ?_ | with_reducible refine w_tup ?_ | with_reducible refine w_lst ?_ | with_reducible refine w_bin ?_ | with_reducible refine w_neg ?_ | with_reducible refine w_not ?_ | with_reducible refine w_cmp ?_ | with_reducible refine w_and ?_ | with_reducible refine w_or ?_ | with_reducible refine w_iff ?_ | with_reducible refine w_isN ?_ | with_reducible refine w_isNN ?_ | with_reducible refine w_callC ?_ | with_reducible refine w_call ?_ | with_reducible refine w_bi ?_ | with_reducible refine w_mt ?_ | with_reducible refine w_idx ?_ | with_reducible refine w_slc ?_ | with_reducible refine w_on ?_ | with_reducible refine w_os ?_ | with_reducible refine w_rev ?_ | with_reducible refine w_sset ?_ | with_reducible refine w_lrng ?_ | with_reducible refine w_lc ?_ | with_reducible refine w_enil ?_ | with_reducible refine w_cons ?_ | with_reducible refine w_star ?_ | with_reducible refine w_ex ?_ | with_reducible refine w_rng1 ?_ | with_reducible refine w_rng2 ?_ | with_reducible refine w_enm ?_ | with_reducible refine w_sub ?_ | with_reducible refine w_dct0 ?_ | with_reducible refine w_isi ?_ | with_reducible refine w_cmp2 ?_ | with_reducible refine w_eq bin_add ?_ | with_reducible refine w_eq bi_lenP ?_ | with_reducible refine w_eq (bi_len len_tup) ?_ | with_reducible refine w_eq (bi_len len_lst) ?_ | with_reducible refine w_eq bin_sub ?_ | with_reducible refine w_eq (bin_fdiv (by decide) (by decide)) ?_ | with_reducible refine ⟨_, cmp_neB, ?_⟩ | with_reducible refine ⟨_, cmp_eqB, ?_⟩ | with_reducible refine ⟨_, cmp_neS, ?_⟩ | with_reducible refine ⟨_, cmp_eqS, ?_⟩ | with_reducible refine ⟨_, cmp_eqI, ?_⟩ | with_reducible refine ⟨_, cmp_neI, ?_⟩ | with_reducible refine ⟨_, truth_bool, ?_⟩ | with_reducible refine ⟨_, ix_pr0, ?_⟩ | with_reducible refine ⟨_, ix_pr1, ?_⟩ | with_reducible refine ⟨_, ix_book, ?_⟩ | with_reducible refine ⟨kind_new, ?_⟩ | with_reducible refine ⟨rfl, ?_⟩ | (with_reducible refine ex_id ?_; refine ⟨_, rfl, ?_⟩) | (with_reducible refine w_len ?_; refine ⟨_, rfl, ?_⟩) | (with_reducible refine w_mkT ?_; refine ⟨_, _, rfl, ?_⟩) | (with_reducible refine w_mkL ?_; refine ⟨_, _, rfl, ?_⟩))
    refine w_eq (lkeeps_run (k := 29) (hok b (by omega))) ?_
    repeat (first | (with_reducible refine w_loc ?_; refine ⟨_, rfl, ?_⟩) | (with_reducible refine w_glo ?_; refine ⟨_, rfl, ?_⟩) | with_reducible refine w_con ?_ | with_reducible refine w_set ?_ | with_reducible refine w_ret ?_ | with_reducible refine w_expr ?_ | with_reducible refine w_unp ?_ | with_reducible refine w_par ?_ | with_reducible refine w_ite ?_ | with_reducible refine w_nx ?_ | with_reducible refine w_rt ?_ | with_reducible refine w_nil ?_ | with_reducible refine w_tup ?_ | with_reducible refine w_lst ?_ | with_reducible refine w_bin ?_ | with_reducible refine w_neg ?_ | with_reducible refine w_not ?_ | with_reducible refine w_cmp ?_ | with_reducible refine w_and ?_ | with_reducible refine w_or ?_ | with_reducible refine w_iff ?_ | with_reducible refine w_isN ?_ | with_reducible refine w_isNN ?_ | with_reducible refine w_callC ?_ | with_reducible refine w_call ?_ | with_reducible refine w_bi ?_ | with_reducible refine w_mt ?_ | with_reducible refine w_idx ?_ | with_reducible refine w_slc ?_ | with_reducible refine w_on ?_ | with_reducible refine w_os ?_ | with_reducible refine w_rev ?_ | with_reducible refine w_sset ?_ | with_reducible refine w_lrng ?_ | with_reducible refine w_lc ?_ | with_reducible refine w_enil ?_ | with_reducible refine w_cons ?_ | with_reducible refine w_star ?_ | with_reducible refine w_ex ?_ | with_reducible refine w_rng1 ?_ | with_reducible refine w_rng2 ?_ | with_reducible refine w_enm ?_ | with_reducible refine w_sub ?_ | with_reducible refine w_dct0 ?_ | with_reducible refine w_isi ?_ | with_reducible refine w_cmp2 ?_ | with_reducible refine w_eq bin_add ?_ | with_reducible refine w_eq bi_lenP ?_ | with_reducible refine w_eq (bi_len len_tup) ?_ | with_reducible refine w_eq (bi_len len_lst) ?_ | with_reducible refine w_eq bin_sub ?_ | with_reducible refine w_eq (bin_fdiv (by decide) (by decide)) ?_ | with_reducible refine ⟨_, cmp_neB, ?_⟩ | with_reducible refine ⟨_, cmp_eqB, ?_⟩ | with_reducible refine ⟨_, cmp_neS, ?_⟩ | with_reducible refine ⟨_, cmp_eqS, ?_⟩ | with_reducible refine ⟨_, cmp_eqI, ?_⟩ | with_reducible refine ⟨_, cmp_neI, ?_⟩ | with_reducible refine ⟨_, truth_bool, ?_⟩ | with_reducible refine ⟨_, ix_pr0, ?_⟩ | with_reducible refine ⟨_, ix_pr1, ?_⟩ | with_reducible refine ⟨_, ix_book, ?_⟩ | with_reducible refine ⟨kind_new, ?_⟩ | with_reducible refine ⟨rfl, ?_⟩ | (with_reducible refine ex_id ?_; refine ⟨_, rfl, ?_⟩) | (with_reducible refine w_len ?_; refine ⟨_, rfl, ?_⟩) | (with_reducible refine w_mkT ?_; refine ⟨_, _, rfl, ?_⟩) | (with_reducible refine w_mkL ?_; refine ⟨_, _, rfl, ?_⟩))
    refine conj_f hkk ?_
    repeat (first | (with_reducible refine w_loc ?_; refine ⟨_, rfl, ?_⟩) | (with_reducible refine w_glo ?_; refine ⟨_, rfl, ?_⟩) | with_reducible refine w_con ?_ | with_reducible refine w_set ?_ | with_reducible refine w_ret ?_ | with_reducible refine w_expr ?_ | with_reducible refine w_unp ?_ | with_reducible refine w_par ?_ | with_reducible refine w_ite ?_ | with_reducible refine w_nx ?_ | with_reducible refine w_rt ?_ | with_reducible refine w_nil ?_ | with_reducible refine w_tup ?_ | with_reducible refine w_lst ?_ | with_reducible refine w_bin ?_ | with_reducible refine w_neg ?_ | with_reducible refine w_not ?_ | with_reducible refine w_cmp ?_ | with_reducible refine w_and ?_ | with_reducible refine w_or ?_ | with_reducible refine w_iff ?_ | with_reducible refine w_isN ?_ | with_reducible refine w_isNN ?_ | with_reducible refine w_callC ?_ | with_reducible refine w_call ?_ | with_reducible refine w_bi ?_ | with_reducible refine w_mt ?_ | with_reducible refine w_idx ?_ | with_reducible refine w_slc ?_ | with_reducible refine w_on ?_ | with_reducible refine w_os ?_ | with_reducible refine w_rev ?_ | with_reducible refine w_sset ?_ | with_reducible refine w_lrng ?_ | with_reducible refine w_lc ?_ | with_reducible refine w_enil ?_ | with_reducible refine w_cons ?_ | with_reducible refine w_star ?_ | with_reducible refine w_ex ?_ | with_reducible refine w_rng1 ?_ | with_reducible refine w_rng2 ?_ | with_reducible refine w_enm ?_ | with_reducible refine w_sub ?_ | with_reducible refine w_dct0 ?_ | with_reducible refine w_isi ?_ | with_reducible refine w_cmp2 ?_ | with_reducible refine w_eq bin_add ?_ | with_reducible refine w_eq bi_lenP ?_ | with_reducible refine w_eq (bi_len len_tup) ?_ | with_reducible refine w_eq (bi_len len_lst) ?_ | with_reducible refine w_eq bin_sub ?_ | with_reducible refine w_eq (bin_fdiv (by decide) (by decide)) ?_ | with_reducible refine ⟨_, cmp_neB, ?_⟩ | with_reducible refine ⟨_, cmp_eqB, ?_⟩ | with_reducible refine ⟨_, cmp_neS, ?_⟩ | with_reducible refine ⟨_, cmp_eqS, ?_⟩ | with_reducible refine ⟨_, cmp_eqI, ?_⟩ | with_reducible refine ⟨_, cmp_neI, ?_⟩ | with_reducible refine ⟨_, truth_bool, ?_⟩ | with_reducible refine ⟨_, ix_pr0, ?_⟩ | with_reducible refine ⟨_, ix_pr1, ?_⟩ | with_reducible refine ⟨_, ix_book, ?_⟩ | with_reducible refine ⟨kind_new, ?_⟩ | with_reducible refine ⟨rfl, ?_⟩ | (with_reducible refine ex_id ?_; refine ⟨_, rfl, ?_⟩) | (with_reducible refine w_len ?_; refine ⟨_, rfl, ?_⟩) | (with_reducible refine w_mkT ?_; refine ⟨_, _, rfl, ?_⟩) | (with_reducible refine w_mkL ?_; refine ⟨_, _, rfl, ?_⟩))
    have p2 : Pl 1 10 (.list [.bool (keepsM ⟨[], some (u, v)⟩ a), .bool (keepsM ⟨[], some (u, v)⟩ b)]) := (Pl.list (n := 0) (b := 0) (plA_cons (Pl.bool _) (plA_cons (Pl.bool _) plA_nil))).mono (by omega) (by simp)
    refine w_eq (keeps_run (k := 29) (hok a rfl)) ?_
    repeat (first | (with_reducible refine w_loc ?_; refine ⟨_, rfl, ?_⟩) | (with_reducible refine w_glo ?_; refine ⟨_, rfl, ?_⟩) | with_reducible refine w_con ?_ | with_reducible refine w_set ?_ | with_reducible refine w_ret ?_ | with_reducible refine w_expr ?_ | with_reducible refine w_unp ?_ | with_reducible refine w_par ?_ | with_reducible refine w_ite ?_ | with_reducible refine w_nx ?_ | with_reducible refine w_rt ?_ | with_reducible refine w_nil ?_ | with_reducible refine w_tup ?_ | with_reducible refine w_lst ?_ | with_reducible refine w_bin ?_ | with_reducible refine w_neg ?_ | with_reducible refine w_not ?_ | with_reducible refine w_cmp ?_ | with_reducible refine w_and ?_ | with_reducible refine w_or ?_ | with_reducible refine w_iff ?_ | with_reducible refine w_isN ?_ | with_reducible refine w_isNN ?_ | with_reducible refine w_callC ?_ | with_reducible refine w_call ?_ | with_reducible refine w_bi ?_ | with_reducible refine w_mt ?_ | with_reducible refine w_idx ?_ | with_reducible refine w_slc ?_ | with_reducible refine w_on ?_ | with_reducible refine w_os ?_ | with_reducible refine w_rev ?_ | with_reducible refine w_sset ?_ | with_reducible refine w_lrng ?_ | with_reducible refine w_lc ?_ | with_reducible refine w_enil ?_ | with_reducible refine w_cons ?_ | with_reducible refine w_star ?_ | with_reducible refine w_ex ?_ | with_reducible refine w_rng1 ?_ | with_reducible refine w_rng2 ?_ | with_reducible refine w_enm ?_ | with_reducible refine w_sub ?_ | with_reducible refine w_dct0 ?_ | with_reducible refine w_isi ?_ | with_reducible refine w_cmp2 ?_ | with_reducible refine w_eq bin_add ?_ | with_reducible refine w_eq bi_lenP ?_ | with_reducible refine w_eq (bi_len len_tup) ?_ | with_reducible refine w_eq (bi_len len_lst) ?_ | with_reducible refine w_eq bin_sub ?_ | with_reducible refine w_eq (bin_fdiv (by decide) (by decide)) ?_ | with_reducible refine ⟨_, cmp_neB, ?_⟩ | with_reducible refine ⟨_, cmp_eqB, ?_⟩ | with_reducible refine ⟨_, cmp_neS, ?_⟩ | with_reducible refine ⟨_, cmp_eqS, ?_⟩ | with_reducible refine ⟨_, cmp_eqI, ?_⟩ | with_reducible refine ⟨_, cmp_neI, ?_⟩ | with_reducible refine ⟨_, truth_bool, ?_⟩ | with_reducible refine ⟨_, ix_pr0, ?_⟩ | with_reducible refine ⟨_, ix_pr1, ?_⟩ | with_reducible refine ⟨_, ix_book, ?_⟩ | with_reducible refine ⟨kind_new, ?_⟩ | with_reducible refine ⟨rfl, ?_⟩ | (with_reducible refine ex_id ?_; refine ⟨_, rfl, ?_⟩) | (with_reducible refine w_len ?_; refine ⟨_, rfl, ?_⟩) | (with_reducible refine w_mkT ?_; refine ⟨_, _, rfl, ?_⟩) | (with_reducible refine w_mkL ?_; refine ⟨_, _, rfl, ?_⟩))
    refine w_eq (keeps_run (k := 29) (hok b (by omega))) ?_
    repeat (first | (with_reducible refine w_loc ?_; refine ⟨_, rfl, ?_⟩) | (with_reducible refine w_glo ?_; refine ⟨_, rfl, ?_⟩) | with_reducible refine w_con ?_ | with_reducible refine w_set ?_ | with_reducible refine w_ret ?_ | with_reducible refine w_expr ?_ | with_reducible refine w_unp ?_ | with_reducible refine w_par ?_ | with_reducible refine w_ite ?_ | with_reducible refine w_nx ?_ | with_reducible refine w_rt ?_ | with_reducible refine w_nil ?_ | with_reducible refine w_tup ?_ | with_reducible refine w_lst ?_ | with_reducible refine w_bin ?_ | with_reducible refine w_neg ?_ | with_reducible refine w_not ?_ | with_reducible refine w_cmp ?_ | with_reducible refine w_and ?_ | with_reducible refine w_or ?_ | with_reducible refine w_iff ?_ | with_reducible refine w_isN ?_ | with_reducible refine w_isNN ?_ | with_reducible refine w_callC ?_ | with_reducible refine w_call ?_ | with_reducible refine w_bi ?_ | with_reducible refine w_mt ?_ | with_reducible refine w_idx ?_ | with_reducible refine w_slc ?_ | with_reducible refine w_on ?_ | with_reducible refine w_os ?_ | with_reducible refine w_rev ?_ | with_reducible refine w_sset ?_ | with_reducible refine w_lrng ?_ | with_reducible refine w_lc ?_ | with_reducible refine w_enil ?_ | with_reducible refine w_cons ?_ | with_reducible refine w_star ?_ | with_reducible refine w_ex ?_ | with_reducible refine w_rng1 ?_ | with_reducible refine w_rng2 ?_ | with_reducible refine w_enm ?_ | with_reducible refine w_sub ?_ | with_reducible refine w_dct0 ?_ | with_reducible refine w_isi ?_ | with_reducible refine w_cmp2 ?_ | with_reducible refine w_eq bin_add ?_ | with_reducible refine w_eq bi_lenP ?_ | with_reducible refine w_eq (bi_len len_tup) ?_ | with_reducible refine w_eq (bi_len len_lst) ?_ | with_reducible refine w_eq bin_sub ?_ | with_reducible refine w_eq (bin_fdiv (by decide) (by decide)) ?_ | with_reducible refine ⟨_, cmp_neB, ?_⟩ | with_reducible refine ⟨_, cmp_eqB, ?_⟩ | with_reducible refine ⟨_, cmp_neS, ?_⟩ | with_reducible refine ⟨_, cmp_eqS, ?_⟩ | with_reducible refine ⟨_, cmp_eqI, ?_⟩ | with_reducible refine ⟨_, cmp_neI, ?_⟩ | with_reducible refine ⟨_, truth_bool, ?_⟩ | with_reducible refine ⟨_, ix_pr0, ?_⟩ | with_reducible refine ⟨_, ix_pr1, ?_⟩ | with_reducible refine ⟨_, ix_book, ?_⟩ | with_reducible refine ⟨kind_new, ?_⟩ | with_reducible refine ⟨rfl, ?_⟩ | (with_reducible refine ex_id ?_; refine ⟨_, rfl, ?_⟩) | (with_reducible refine w_len ?_; refine ⟨_, rfl, ?_⟩) | (with_reducible refine w_mkT ?_; refine ⟨_, _, rfl, ?_⟩) | (with_reducible refine w_mkL ?_; refine ⟨_, _, rfl, ?_⟩))
    refine w_eq (repr_pl rfl p2 (by omega) (by omega)) ?_
    repeat (first | (with_reducible refine w_loc ?_; refine ⟨_, rfl, ?_⟩) | (with_reducible refine w_glo ?_; refine ⟨_, rfl, ?_⟩) | with_reducible refine w_con ?_ | with_reducible refine w_set ?_ | with_reducible refine w_ret ?_ | with_reducible refine w_expr ?_ | with_reducible refine w_unp ?_ | with_reducible refine w_par ?_ | with_reducible refine w_ite ?_ | with_reducible refine w_nx ?_ | with_reducible refine w_rt ?_ | with_reducible refine w_nil ?_ | with_reducible refine w_tup ?_ | with_reducible refine w_lst ?_ | with_reducible refine w_bin ?_ | with_reducible refine w_neg ?_ | with_reducible refine w_not ?_ | with_reducible refine w_cmp ?_ | with_reducible refine w_and ?_ | with_reducible refine w_or ?_ | with_reducible refine w_iff ?_ | with_reducible refine w_isN ?_ | with_reducible refine w_isNN ?_ | with_reducible refine w_callC ?_ | with_reducible refine w_call ?_ | with_reducible refine w_bi ?_ | with_reducible refine w_mt ?_ | with_reducible refine w_idx ?_ | with_reducible refine w_slc ?_ | with_reducible refine w_on ?_ | with_reducible refine w_os ?_ | with_reducible refine w_rev ?_ | with_reducible refine w_sset ?_ | with_reducible refine w_lrng ?_ | with_reducible refine w_lc ?_ | with_reducible refine w_enil ?_ | with_reducible refine w_cons ?_ | with_reducible refine w_star ?_ | with_reducible refine w_ex ?_ | with_reducible refine w_rng1 ?_ | with_reducible refine w_rng2 ?_ | with_reducible refine w_enm ?_ | with_reducible refine w_sub ?_ | with_reducible refine w_dct0 ?_ | with_reducible refine w_isi ?_ | with_reducible refine w_cmp2 ?_ | with_reducible refine w_eq bin_add ?_ | with_reducible refine w_eq bi_lenP ?_ | with_reducible refine w_eq (bi_len len_tup) ?_ | with_reducible refine w_eq (bi_len len_lst) ?_ | with_reducible refine w_eq bin_sub ?_ | with_reducible refine w_eq (bin_fdiv (by decide) (by decide)) ?_ | with_reducible refine ⟨_, cmp_neB, ?_⟩ | with_reducible refine ⟨_, cmp_eqB, ?_⟩ | with_reducible refine ⟨_, cmp_neS, ?_⟩ | with_reducible refine ⟨_, cmp_eqS, ?_⟩ | with_reducible refine ⟨_, cmp_eqI, ?_⟩ | with_reducible refine ⟨_, cmp_neI, ?_⟩ | with_reducible refine ⟨_, truth_bool, ?_⟩ | with_reducible refine ⟨_, ix_pr0, ?_⟩ | with_reducible refine ⟨_, ix_pr1, ?_⟩ | with_reducible refine ⟨_, ix_book, ?_⟩ | with_reducible refine ⟨kind_new, ?_⟩ | with_reducible refine ⟨rfl, ?_⟩ | (with_reducible refine ex_id ?_; refine ⟨_, rfl, ?_⟩) | (with_reducible refine w_len ?_; refine ⟨_, rfl, ?_⟩) | (with_reducible refine w_mkT ?_; refine ⟨_, _, rfl, ?_⟩) | (with_reducible refine w_mkL ?_; refine ⟨_, _, rfl, ?_⟩))
    refine w_eq (lkeeps_run (k := 29) (hok a rfl)) ?_
    repeat (first | (with_reducible refine w_loc ?_; refine ⟨_, rfl, ?_⟩) | (with_reducible refine w_glo ?_; refine ⟨_, rfl, ?_⟩) | with_reducible refine w_con ?_ | with_reducible refine w_set ?_ | with_reducible refine w_ret ?_ | with_reducible refine w_expr ?_ | with_reducible refine w_unp ?_ | with_reducible refine w_par ?_ | with_reducible refine w_ite ?_ | with_reducible refine w_nx ?_ | with_reducible refine w_rt ?_ | with_reducible refine w_nil ?_ | with_reducible refine w_tup ?_ | with_reducible refine w_lst ?_ | with_reducible refine w_bin ?_ | with_reducible refine w_neg ?_ | with_reducible refine w_not ?_ | with_reducible refine w_cmp ?_ | with_reducible refine w_and ?_ | with_reducible refine w_or ?_ | with_reducible refine w_iff ?_ | with_reducible refine w_isN ?_ | with_reducible refine w_isNN ?_ | with_reducible refine w_callC ?_ | with_reducible refine w_call ?_ | with_reducible refine w_bi ?_ | with_reducible refine w_mt ?_ | with_reducible refine w_idx ?_ | with_reducible refine w_slc ?_ | with_reducible refine w_on ?_ | with_reducible refine w_os ?_ | with_reducible refine w_rev ?_ | with_reducible refine w_sset ?_ | with_reducible refine w_lrng ?_ | with_reducible refine w_lc ?_ | with_reducible refine w_enil ?_ | with_reducible refine w_cons ?_ | with_reducible refine w_star ?_ | with_reducible refine w_ex ?_ | with_reducible refine w_rng1 ?_ | with_reducible refine w_rng2 ?_ | with_reducible refine w_enm ?_ | with_reducible refine w_sub ?_ | with_reducible refine w_dct0 ?_ | with_reducible refine w_isi ?_ | with_reducible refine w_cmp2 ?_ | with_reducible refine w_eq bin_add ?_ | with_reducible refine w_eq bi_lenP ?_ | with_reducible refine w_eq (bi_len len_tup) ?_ | with_reducible refine w_eq (bi_len len_lst) ?_ | with_reducible refine w_eq bin_sub ?_ | with_reducible refine w_eq (bin_fdiv (by decide) (by decide)) ?_ | with_reducible refine ⟨_, cmp_neB, ?_⟩ | with_reducible refine ⟨_, cmp_eqB, ?_⟩ | with_reducible refine ⟨_, cmp_neS, ?_⟩ | with_reducible refine ⟨_, cmp_eqS, ?_⟩ | with_reducible refine ⟨_, cmp_eqI, ?_⟩ | with_reducible refine ⟨_, cmp_neI, ?_⟩ | with_reducible refine ⟨_, truth_bool, ?_⟩ | with_reducible refine ⟨_, ix_pr0, ?_⟩ | with_reducible refine ⟨_, ix_pr1, ?_⟩ | with_reducible refine ⟨_, ix_book, ?_⟩ | with_reducible refine ⟨kind_new, ?_⟩ | with_reducible refine ⟨rfl, ?_⟩ | (with_reducible refine ex_id ?_; refine ⟨_, rfl, ?_⟩) | (with_reducible refine w_len ?_; refine ⟨_, rfl, ?_⟩) | (with_reducible refine w_mkT ?_; refine ⟨_, _, rfl, ?_⟩) | (with_reducible refine w_mkL ?_; refine ⟨_, _, rfl, ?_⟩))
    refine w_eq (lkeeps_run (k := 29) (hok b (by omega))) ?_
    repeat (first | (with_reducible refine w_loc ?_; refine ⟨_, rfl, ?_⟩) | (with_reducible refine w_glo ?_; refine ⟨_, rfl, ?_⟩) | with_reducible refine w_con ?_ | with_reducible refine w_set ?_ | with_reducible refine w_ret ?_ | with_reducible refine w_expr ?_ | with_reducible refine w_unp ?_ | with_reducible refine w_par ?_ | with_reducible refine w_ite ?_ | with_reducible refine w_nx ?_ | with_reducible refine w_rt ?_ | with_reducible refine w_nil ?_ | with_reducible refine w_tup ?_ | with_reducible refine w_lst ?_ | with_reducible refine w_bin ?_ | with_reducible refine w_neg ?_ | with_reducible refine w_not ?_ | with_reducible refine w_cmp ?_ | with_reducible refine w_and ?_ | with_reducible refine w_or ?_ | with_reducible refine w_iff ?_ | with_reducible refine w_isN ?_ | with_reducible refine w_isNN ?_ | with_reducible refine w_callC ?_ | with_reducible refine w_call ?_ | with_reducible refine w_bi ?_ | with_reducible refine w_mt ?_ | with_reducible refine w_idx ?_ | with_reducible refine w_slc ?_ | with_reducible refine w_on ?_ | with_reducible refine w_os ?_ | with_reducible refine w_rev ?_ | with_reducible refine w_sset ?_ | with_reducible refine w_lrng ?_ | with_reducible refine w_lc ?_ | with_reducible refine w_enil ?_ | with_reducible refine w_cons ?_ | with_reducible refine w_star ?_ | with_reducible refine w_ex ?_ | with_reducible refine w_rng1 ?_ | with_reducible refine w_rng2 ?_ | with_reducible refine w_enm ?_ | with_reducible refine w_sub ?_ | with_reducible refine w_dct0 ?_ | with_reducible refine w_isi ?_ | with_reducible refine w_cmp2 ?_ | with_reducible refine w_eq bin_add ?_ | with_reducible refine w_eq bi_lenP ?_ | with_reducible refine w_eq (bi_len len_tup) ?_ | with_reducible refine w_eq (bi_len len_lst) ?_ | with_reducible refine w_eq bin_sub ?_ | with_reducible refine w_eq (bin_fdiv (by decide) (by decide)) ?_ | with_reducible refine ⟨_, cmp_neB, ?_⟩ | with_reducible refine ⟨_, cmp_eqB, ?_⟩ | with_reducible refine ⟨_, cmp_neS, ?_⟩ | with_reducible refine ⟨_, cmp_eqS, ?_⟩ | with_reducible refine ⟨_, cmp_eqI, ?_⟩ | with_reducible refine ⟨_, cmp_neI, ?_⟩ | with_reducible refine ⟨_, truth_bool, ?_⟩ | with_reducible refine ⟨_, ix_pr0, ?_⟩ | with_reducible refine ⟨_, ix_pr1, ?_⟩ | with_reducible refine ⟨_, ix_book, ?_⟩ | with_reducible refine ⟨kind_new, ?_⟩ | with_reducible refine ⟨rfl, ?_⟩ | (with_reducible refine ex_id ?_; refine ⟨_, rfl, ?_⟩) | (with_reducible refine w_len ?_; refine ⟨_, rfl, ?_⟩) | (with_reducible refine w_mkT ?_; refine ⟨_, _, rfl, ?_⟩) | (with_reducible refine w_mkL ?_; refine ⟨_, _, rfl, ?_⟩))
    refine w_eq (repr_pl rfl p2 (by omega) (by omega)) ?_
    repeat (first | (with_reducible refine w_loc ?_; refine ⟨_, rfl, ?_⟩) | (with_reducible refine w_glo ?_; refine ⟨_, rfl, ?_⟩) | with_reducible refine w_con ?_ | with_reducible refine w_set ?_ | with_reducible refine w_ret ?_ | with_reducible refine w_expr ?_ | with_reducible refine w_unp ?_ | with_reducible refine w_par ?_ | with_reducible refine w_ite ?_ | with_reducible refine w_nx ?_ | with_reducible refine w_rt ?_ | with_reducible refine w_nil ?_ | with_reducible refine w_tup ?_ | with_reducible refine w_lst ?_ | with_reducible refine w_bin ?_ | with_reducible refine w_neg ?_ | with_reducible refine w_not ?_ | with_reducible refine w_cmp ?_ | with_reducible refine w_and ?_ | with_reducible refine w_or ?_ | with_reducible refine w_iff ?_ | with_reducible refine w_isN ?_ | with_reducible refine w_isNN ?_ | with_reducible refine w_callC ?_ | with_reducible refine w_call ?_ | with_reducible refine w_bi ?_ | with_reducible refine w_mt ?_ | with_reducible refine w_idx ?_ | with_reducible refine w_slc ?_ | with_reducible refine w_on ?_ | with_reducible refine w_os ?_ | with_reducible refine w_rev ?_ | with_reducible refine w_sset ?_ | with_reducible refine w_lrng ?_ | with_reducible refine w_lc ?_ | with_reducible refine w_enil ?_ | with_reducible refine w_cons ?_ | with_reducible refine w_star ?_ | with_reducible refine w_ex ?_ | with_reducible refine w_rng1 ?_ | with_reducible refine w_rng2 ?_ | with_reducible refine w_enm ?_ | with_reducible refine w_sub ?_ | with_reducible refine w_dct0 ?_ | with_reducible refine w_isi ?_ | with_reducible refine w_cmp2 ?_ | with_reducible refine w_eq bin_add ?_ | with_reducible refine w_eq bi_lenP ?_ | with_reducible refine w_eq (bi_len len_tup) ?_ | with_reducible refine w_eq (bi_len len_lst) ?_ | with_reducible refine w_eq bin_sub ?_ | with_reducible refine w_eq (bin_fdiv (by decide) (by decide)) ?_ | with_reducible refine ⟨_, cmp_neB, ?_⟩ | with_reducible refine ⟨_, cmp_eqB, ?_⟩ | with_reducible refine ⟨_, cmp_neS, ?_⟩ | with_reducible refine ⟨_, cmp_eqS, ?_⟩ | with_reducible refine ⟨_, cmp_eqI, ?_⟩ | with_reducible refine ⟨_, cmp_neI, ?_⟩ | with_reducible refine ⟨_, truth_bool, ?_⟩ | with_reducible refine ⟨_, ix_pr0, ?_⟩ | with_reducible refine ⟨_, ix_pr1, ?_⟩ | with_reducible refine ⟨_, ix_book, ?_⟩ | with_reducible refine ⟨kind_new, ?_⟩ | with_reducible refine ⟨rfl, ?_⟩ | (with_reducible refine ex_id ?_; refine ⟨_, rfl, ?_⟩) | (with_reducible refine w_len ?_; refine ⟨_, rfl, ?_⟩) | (with_reducible refine w_mkT ?_; refine ⟨_, _, rfl, ?_⟩) | (with_reducible refine w_mkL ?_; refine ⟨_, _, rfl, ?_⟩))
    refine conj_f (ne_self rfl) ?_
    repeat (first | (with_reducible refine w_loc ?_; refine ⟨_, rfl, ?_⟩) | (with_reducible refine w_glo ?_; refine ⟨_, rfl, ?_⟩) | with_reducible refine w_con ?_ | with_reducible refine w_set ?_ | with_reducible refine w_ret ?_ | with_reducible refine w_expr ?_ | with_reducible refine w_unp ?_ | with_reducible refine w_par ?_ | with_reducible refine w_ite ?_ | with_reducible refine w_nx ?_ | with_reducible refine w_rt ?_ | with_reducible refine w_nil ?_ | with_reducible refine w_tup ?_ | with_reducible refine w_lst ?_ | with_reducible refine w_bin ?_ | with_reducible refine w_neg ?_ | with_reducible refine w_not ?_ | with_reducible refine w_cmp ?_ | with_reducible refine w_and ?_ | with_reducible refine w_or ?_ | with_reducible refine w_iff ?_ | with_reducible refine w_isN ?_ | with_reducible refine w_isNN ?_ | with_reducible refine w_callC ?_ | with_reducible refine w_call ?_ | with_reducible refine w_bi ?_ | with_reducible refine w_mt ?_ | with_reducible refine w_idx ?_ | with_reducible refine w_slc ?_ | with_reducible refine w_on ?_ | with_reducible refine w_os ?_ | with_reducible refine w_rev ?_ | with_reducible refine w_sset ?_ | with_reducible refine w_lrng ?_ | with_reducible refine w_lc ?_ | with_reducible refine w_enil ?_ | with_reducible refine w_cons ?_ | with_reducible refine w_star ?_ | with_reducible refine w_ex ?_ | with_reducible refine w_rng1 ?_ | with_reducible refine w_rng2 ?_ | with_reducible refine w_enm ?_ | with_reducible refine w_sub ?_ | with_reducible refine w_dct0 ?_ | with_reducible refine w_isi ?_ | with_reducible refine w_cmp2 ?_ | with_reducible refine w_eq bin_add ?_ | with_reducible refine w_eq bi_lenP ?_ | with_reducible refine w_eq (bi_len len_tup) ?_ | with_reducible refine w_eq (bi_len len_lst) ?_ | with_reducible refine w_eq bin_sub ?_ | with_reducible refine w_eq (bin_fdiv (by decide) (by decide)) ?_ | with_reducible refine ⟨_, cmp_neB, ?_⟩ | with_reducible refine ⟨_, cmp_eqB, ?_⟩ | with_reducible refine ⟨_, cmp_neS, ?_⟩ | with_reducible refine ⟨_, cmp_eqS, ?_⟩ | with_reducible refine ⟨_, cmp_eqI, ?_⟩ | with_reducible refine ⟨_, cmp_neI, ?_⟩ | with_reducible refine ⟨_, truth_bool, ?_⟩ | with_reducible refine ⟨_, ix_pr0, ?_⟩ | with_reducible refine ⟨_, ix_pr1, ?_⟩ | with_reducible refine ⟨_, ix_book, ?_⟩ | with_reducible refine ⟨kind_new, ?_⟩ | with_reducible refine ⟨rfl, ?_⟩ | (with_reducible refine ex_id ?_; refine ⟨_, rfl, ?_⟩) | (with_reducible refine w_len ?_; refine ⟨_, rfl, ?_⟩) | (with_reducible refine w_mkT ?_; refine ⟨_, _, rfl, ?_⟩) | (with_reducible refine w_mkL ?_; refine ⟨_, _, rfl, ?_⟩))
    exact last _ g
theorem fin12b {n : Int} {a b : List Int} {w : Int} {x2 x7 x8 x9 x10 x11 x12 : Option Val} {st : Sto} {xs : List D} (h1 : 1 ≤ n) (h9 : n ≤ 9) (ha : a.length = n.toNat) (hb : b.length = n.toNat) (pa : Sm (10 ^ 30) a) (pb : Sm (10 ^ 30) b) (g : Gr st []) :
    Ok (evSs (⟨calls gdefs gglo 30, gglo⟩ : Ck) (dropS 4 t12) (l12 x2 (some (iv n)) (some (.d (encP a))) (some (.d (encP b))) (some (iv w)) x7 x8 x9 x10 x11 x12) st) (turn P12 (⟨calls gdefs gglo 30, gglo⟩ : Ck) e12 Q12 xs) := by
  show Ok (evSs (⟨calls gdefs gglo 30, gglo⟩ : Ck) (.cons (.set 5 _) _) _ st) _
  refine w_set ?_
  repeat (first | (with_reducible refine w_loc ?_; refine ⟨_, rfl, ?_⟩) | (with_reducible refine w_glo ?_; refine ⟨_, rfl, ?_⟩) | with_reducible refine w_con ?_ | with_reducible refine w_set ?_ | with_reducible refine w_ret ?_ | with_reducible refine w_expr ?_ | with_reducible refine w_unp ?_ | with_reducible refine w_par ?_ | with_reducible refine w_ite ?_ | with_reducible refine w_nx ?_ | with_reducible refine w_rt ?_ | with_reducible refine w_nil ?_ | with_reducible refine w_tup ?_ | with_reducible refine w_lst ?_ | with_reducible refine w_bin ?_ | with_reducible refine w_neg ?_ | with_reducible refine w_not ?_ | with_reducible refine w_cmp ?_ | with_reducible refine w_and ?_ | with_reducible refine w_or ?_ | with_reducible refine w_iff ?_ | with_reducible refine w_isN ?_ | with_reducible refine w_isNN ?_ | with_reducible refine w_callC ?_ | with_reducible refine w_call ?_ | with_reducible refine w_bi ?_ | with_reducible refine w_mt ?_ | with_reducible refine w_idx ?_ | with_reducible refine w_slc ?_ | with_reducible refine w_on ?_ | with_reducible refine w_os ?_ | with_reducible refine w_rev ?_ | with_reducible refine w_sset ?_ | with_reducible refine w_lrng ?_ | with_reducible refine w_lc ?_ | with_reducible refine w_enil ?_ | with_reducible refine w_cons ?_ | with_reducible refine w_star ?_ | with_reducible refine w_ex ?_ | with_reducible refine w_rng1 ?_ | with_reducible refine w_rng2 ?_ | with_reducible refine w_enm ?_ | with_reducible refine w_sub ?_ | with_reducible refine w_dct0 ?_ | with_reducible refine w_isi ?_ | with_reducible refine w_cmp2 ?_ | with_reducible refine w_eq bin_add ?_ | with_reducible refine w_eq bi_lenP ?_ | with_reducible refine w_eq (bi_len len_tup) ?_ | with_reducible refine w_eq (bi_len len_lst) ?_ | with_reducible refine w_eq bin_sub ?_ | with_reducible refine w_eq (bin_fdiv (by decide) (by decide)) ?_ | with_reducible refine ⟨_, cmp_neB, ?_⟩ | with_reducible refine ⟨_, cmp_eqB, ?_⟩ | with_reducible refine ⟨_, cmp_neS, ?_⟩ | with_reducible refine ⟨_, cmp_eqS, ?_⟩ | with_reducible refine ⟨_, cmp_eqI, ?_⟩ | with_reducible refine ⟨_, cmp_neI, ?_⟩ | with_reducible refine ⟨_, truth_bool, ?_⟩ | with_reducible refine ⟨_, ix_pr0, ?_⟩ | with_reducible refine ⟨_, ix_pr1, ?_⟩ | with_reducible refine ⟨_, ix_book, ?_⟩ | with_reducible refine ⟨kind_new, ?_⟩ | with_reducible refine ⟨rfl, ?_⟩ | (with_reducible refine ex_id ?_; refine ⟨_, rfl, ?_⟩) | (with_reducible refine w_len ?_; refine ⟨_, rfl, ?_⟩) | (with_reducible refine w_mkT ?_; refine ⟨_, _, rfl, ?_⟩) | (with_reducible refine w_mkL ?_; refine ⟨_, _, rfl, ?_⟩))
  refine ⟨fun h => ?_, fun h => ?_⟩
  · repeat (first | (with_reducible refine w_loc ?_; refine ⟨_, rfl, ?_⟩) | with_reducible refine w_con ?_ | with_reducible refine w_callC ?_ | with_reducible refine w_enil ?_ | with_reducible refine w_cons ?_)
    obtain ⟨v, st1, e1, g1, qs, rfl, hqs, hqb⟩ := place_ok (k := 27) (n := n) (by omega) (by omega) g
    refine w_eq e1 ?_
    exact fin12 h1 h9 ha hqs pa (hqb.mono (by decide)) g1
  · refine w_loc ⟨_, rfl, ?_⟩
    exact fin12 h1 h9 ha hb pa pb g
theorem c12a (st : Sto) : calls gdefs gglo 30 60 [.d (encP []), .d (encP [])] st = .ok (.d .none) st := by kernel_rfl
theorem c12b (st : Sto) : calls gdefs gglo 30 60 [.d (encP [5]), .d (encP [-1])] st = .ok (.d .none) st := by kernel_rfl
theorem c12c (st : Sto) : calls gdefs gglo 30 60 [.d (encP [0, 0]), .d (encP [0, 1])] st = .ok (.d (encS ⟨[], some (1, 0)⟩)) st := by kernel_rfl
theorem k12_ok {zs : List Int} (hz : zs.length ≤ 63) : Ok (calls gdefs gglo 31 63 [.ref 0] [.scr (zs.map PyData.int)]) fun v _ => v = .d (.bool true) := by
  rw [calls_run gd63]
  refine w_imp rfl rfl ?_
  show Ok (evSs _ b63 [some (.ref 0), none, none, none, none, none, none, none, none, none, none, none, none] _) _
  rw [b63_eq]
  obtain ⟨cs, m, hc, e0⟩ := source_ok (k := 29) hz
  repeat (first | (with_reducible refine w_loc ?_; refine ⟨_, rfl, ?_⟩) | (with_reducible refine w_glo ?_; refine ⟨_, rfl, ?_⟩) | with_reducible refine w_con ?_ | with_reducible refine w_set ?_ | with_reducible refine w_ret ?_ | with_reducible refine w_expr ?_ | with_reducible refine w_unp ?_ | with_reducible refine w_par ?_ | with_reducible refine w_ite ?_ | with_reducible refine w_nx ?_ | with_reducible refine w_rt ?_ | with_reducible refine w_nil ?_ | with_reducible refine w_tup ?_ | with_reducible refine w_lst ?_ | with_reducible refine w_bin ?_ | with_reducible refine w_neg ?_ | with_reducible refine w_not ?_ | with_reducible refine w_cmp ?_ | with_reducible refine w_and ?_ | with_reducible refine w_or ?_ | with_reducible refine w_iff ?_ | with_reducible refine w_isN ?_ | with_reducible refine w_isNN ?_ | with_reducible refine w_callC ?_ | with_reducible refine w_call ?_ | with_reducible refine w_bi ?_ | with_reducible refine w_mt ?_ | with_reducible refine w_idx ?_ | with_reducible refine w_slc ?_ | with_reducible refine w_on ?_ | with_reducible refine w_os ?_ | with_reducible refine w_rev ?_ | with_reducible refine w_sset ?_ | with_reducible refine w_lrng ?_ | with_reducible refine w_lc ?_ | with_reducible refine w_enil ?_ | with_reducible refine w_cons ?_ | with_reducible refine w_star ?_ | with_reducible refine w_ex ?_ | with_reducible refine w_rng1 ?_ | with_reducible refine w_rng2 ?_ | with_reducible refine w_enm ?_ | with_reducible refine w_sub ?_ | with_reducible refine w_dct0 ?_ | with_reducible refine w_isi ?_ | with_reducible refine w_cmp2 ?_ | with_reducible refine w_eq bin_add ?_ | with_reducible refine w_eq bi_lenP ?_ | with_reducible refine w_eq (bi_len len_tup) ?_ | with_reducible refine w_eq (bi_len len_lst) ?_ | with_reducible refine w_eq bin_sub ?_ | with_reducible refine w_eq (bin_fdiv (by decide) (by decide)) ?_ | with_reducible refine ⟨_, cmp_neB, ?_⟩ | with_reducible refine ⟨_, cmp_eqB, ?_⟩ | with_reducible refine ⟨_, cmp_neS, ?_⟩ | with_reducible refine ⟨_, cmp_eqS, ?_⟩ | with_reducible refine ⟨_, cmp_eqI, ?_⟩ | with_reducible refine ⟨_, cmp_neI, ?_⟩ | with_reducible refine ⟨_, truth_bool, ?_⟩ | with_reducible refine ⟨_, ix_pr0, ?_⟩ | with_reducible refine ⟨_, ix_pr1, ?_⟩ | with_reducible refine ⟨_, ix_book, ?_⟩ | with_reducible refine ⟨kind_new, ?_⟩ | with_reducible refine ⟨rfl, ?_⟩ | (with_reducible refine ex_id ?_; refine ⟨_, rfl, ?_⟩) | (with_reducible refine w_len ?_; refine ⟨_, rfl, ?_⟩) | (with_reducible refine w_mkT ?_; refine ⟨_, _, rfl, ?_⟩) | (with_reducible refine w_mkL ?_; refine ⟨_, _, rfl, ?_⟩))
  refine w_eq e0 ?_
  have g0 : Gr (SS (zs.map PyData.int) cs 1 m 0 []) [] := Gr.of ⟨_, _, _, _, _, rfl, by omega⟩
  repeat (first | (with_reducible refine w_loc ?_; refine ⟨_, rfl, ?_⟩) | (with_reducible refine w_glo ?_; refine ⟨_, rfl, ?_⟩) | with_reducible refine w_con ?_ | with_reducible refine w_set ?_ | with_reducible refine w_ret ?_ | with_reducible refine w_expr ?_ | with_reducible refine w_unp ?_ | with_reducible refine w_par ?_ | with_reducible refine w_ite ?_ | with_reducible refine w_nx ?_ | with_reducible refine w_rt ?_ | with_reducible refine w_nil ?_ | with_reducible refine w_tup ?_ | with_reducible refine w_lst ?_ | with_reducible refine w_bin ?_ | with_reducible refine w_neg ?_ | with_reducible refine w_not ?_ | with_reducible refine w_cmp ?_ | with_reducible refine w_and ?_ | with_reducible refine w_or ?_ | with_reducible refine w_iff ?_ | with_reducible refine w_isN ?_ | with_reducible refine w_isNN ?_ | with_reducible refine w_callC ?_ | with_reducible refine w_call ?_ | with_reducible refine w_bi ?_ | with_reducible refine w_mt ?_ | with_reducible refine w_idx ?_ | with_reducible refine w_slc ?_ | with_reducible refine w_on ?_ | with_reducible refine w_os ?_ | with_reducible refine w_rev ?_ | with_reducible refine w_sset ?_ | with_reducible refine w_lrng ?_ | with_reducible refine w_lc ?_ | with_reducible refine w_enil ?_ | with_reducible refine w_cons ?_ | with_reducible refine w_star ?_ | with_reducible refine w_ex ?_ | with_reducible refine w_rng1 ?_ | with_reducible refine w_rng2 ?_ | with_reducible refine w_enm ?_ | with_reducible refine w_sub ?_ | with_reducible refine w_dct0 ?_ | with_reducible refine w_isi ?_ | with_reducible refine w_cmp2 ?_ | with_reducible refine w_eq bin_add ?_ | with_reducible refine w_eq bi_lenP ?_ | with_reducible refine w_eq (bi_len len_tup) ?_ | with_reducible refine w_eq (bi_len len_lst) ?_ | with_reducible refine w_eq bin_sub ?_ | with_reducible refine w_eq (bin_fdiv (by decide) (by decide)) ?_ | with_reducible refine ⟨_, cmp_neB, ?_⟩ | with_reducible refine ⟨_, cmp_eqB, ?_⟩ | with_reducible refine ⟨_, cmp_neS, ?_⟩ | with_reducible refine ⟨_, cmp_eqS, ?_⟩ | with_reducible refine ⟨_, cmp_eqI, ?_⟩ | with_reducible refine ⟨_, cmp_neI, ?_⟩ | with_reducible refine ⟨_, truth_bool, ?_⟩ | with_reducible refine ⟨_, ix_pr0, ?_⟩ | with_reducible refine ⟨_, ix_pr1, ?_⟩ | with_reducible refine ⟨_, ix_book, ?_⟩ | with_reducible refine ⟨kind_new, ?_⟩ | with_reducible refine ⟨rfl, ?_⟩ | (with_reducible refine ex_id ?_; refine ⟨_, rfl, ?_⟩) | (with_reducible refine w_len ?_; refine ⟨_, rfl, ?_⟩) | (with_reducible refine w_mkT ?_; refine ⟨_, _, rfl, ?_⟩) | (with_reducible refine w_mkL ?_; refine ⟨_, _, rfl, ?_⟩))
  refine w_loop P12 ?_ (fun x xs en st ⟨g, ⟨x2, x3, x4, x5, x6, x7, x8, x9, x10, x11, x12, he⟩⟩ => ?_) (fun en st ⟨g, ⟨x2, x3, x4, x5, x6, x7, x8, x9, x10, x11, x12, he⟩⟩ => ?_)
  · repeat (first | (with_reducible refine w_loc ?_; refine ⟨_, rfl, ?_⟩) | (with_reducible refine w_glo ?_; refine ⟨_, rfl, ?_⟩) | with_reducible refine w_con ?_ | with_reducible refine w_set ?_ | with_reducible refine w_ret ?_ | with_reducible refine w_expr ?_ | with_reducible refine w_unp ?_ | with_reducible refine w_par ?_ | with_reducible refine w_ite ?_ | with_reducible refine w_nx ?_ | with_reducible refine w_rt ?_ | with_reducible refine w_nil ?_ | with_reducible refine w_tup ?_ | with_reducible refine w_lst ?_ | with_reducible refine w_bin ?_ | with_reducible refine w_neg ?_ | with_reducible refine w_not ?_ | with_reducible refine w_cmp ?_ | with_reducible refine w_and ?_ | with_reducible refine w_or ?_ | with_reducible refine w_iff ?_ | with_reducible refine w_isN ?_ | with_reducible refine w_isNN ?_ | with_reducible refine w_callC ?_ | with_reducible refine w_call ?_ | with_reducible refine w_bi ?_ | with_reducible refine w_mt ?_ | with_reducible refine w_idx ?_ | with_reducible refine w_slc ?_ | with_reducible refine w_on ?_ | with_reducible refine w_os ?_ | with_reducible refine w_rev ?_ | with_reducible refine w_sset ?_ | with_reducible refine w_lrng ?_ | with_reducible refine w_lc ?_ | with_reducible refine w_enil ?_ | with_reducible refine w_cons ?_ | with_reducible refine w_star ?_ | with_reducible refine w_ex ?_ | with_reducible refine w_rng1 ?_ | with_reducible refine w_rng2 ?_ | with_reducible refine w_enm ?_ | with_reducible refine w_sub ?_ | with_reducible refine w_dct0 ?_ | with_reducible refine w_isi ?_ | with_reducible refine w_cmp2 ?_ | with_reducible refine w_eq bin_add ?_ | with_reducible refine w_eq bi_lenP ?_ | with_reducible refine w_eq (bi_len len_tup) ?_ | with_reducible refine w_eq (bi_len len_lst) ?_ | with_reducible refine w_eq bin_sub ?_ | with_reducible refine w_eq (bin_fdiv (by decide) (by decide)) ?_ | with_reducible refine ⟨_, cmp_neB, ?_⟩ | with_reducible refine ⟨_, cmp_eqB, ?_⟩ | with_reducible refine ⟨_, cmp_neS, ?_⟩ | with_reducible refine ⟨_, cmp_eqS, ?_⟩ | with_reducible refine ⟨_, cmp_eqI, ?_⟩ | with_reducible refine ⟨_, cmp_neI, ?_⟩ | with_reducible refine ⟨_, truth_bool, ?_⟩ | with_reducible refine ⟨_, ix_pr0, ?_⟩ | with_reducible refine ⟨_, ix_pr1, ?_⟩ | with_reducible refine ⟨_, ix_book, ?_⟩ | with_reducible refine ⟨kind_new, ?_⟩ | with_reducible refine ⟨rfl, ?_⟩ | (with_reducible refine ex_id ?_; refine ⟨_, rfl, ?_⟩) | (with_reducible refine w_len ?_; refine ⟨_, rfl, ?_⟩) | (with_reducible refine w_mkT ?_; refine ⟨_, _, rfl, ?_⟩) | (with_reducible refine w_mkL ?_; refine ⟨_, _, rfl, ?_⟩))
    exact ⟨by decide, by decide, _, rfl, g0, ⟨_, _, _, _, _, _, _, _, _, _, _, rfl⟩⟩
  · subst he
    refine ⟨_, rfl, ?_⟩
    show Ok (evSs (⟨calls gdefs gglo 30, gglo⟩ : Ck) (.cons (.set 3 _) _) _ st) _
    repeat (first | (with_reducible refine w_loc ?_; refine ⟨_, rfl, ?_⟩) | (with_reducible refine w_glo ?_; refine ⟨_, rfl, ?_⟩) | with_reducible refine w_con ?_ | with_reducible refine w_set ?_ | with_reducible refine w_ret ?_ | with_reducible refine w_expr ?_ | with_reducible refine w_unp ?_ | with_reducible refine w_par ?_ | with_reducible refine w_ite ?_ | with_reducible refine w_nx ?_ | with_reducible refine w_rt ?_ | with_reducible refine w_nil ?_ | with_reducible refine w_tup ?_ | with_reducible refine w_lst ?_ | with_reducible refine w_bin ?_ | with_reducible refine w_neg ?_ | with_reducible refine w_not ?_ | with_reducible refine w_cmp ?_ | with_reducible refine w_and ?_ | with_reducible refine w_or ?_ | with_reducible refine w_iff ?_ | with_reducible refine w_isN ?_ | with_reducible refine w_isNN ?_ | with_reducible refine w_callC ?_ | with_reducible refine w_call ?_ | with_reducible refine w_bi ?_ | with_reducible refine w_mt ?_ | with_reducible refine w_idx ?_ | with_reducible refine w_slc ?_ | with_reducible refine w_on ?_ | with_reducible refine w_os ?_ | with_reducible refine w_rev ?_ | with_reducible refine w_sset ?_ | with_reducible refine w_lrng ?_ | with_reducible refine w_lc ?_ | with_reducible refine w_enil ?_ | with_reducible refine w_cons ?_ | with_reducible refine w_star ?_ | with_reducible refine w_ex ?_ | with_reducible refine w_rng1 ?_ | with_reducible refine w_rng2 ?_ | with_reducible refine w_enm ?_ | with_reducible refine w_sub ?_ | with_reducible refine w_dct0 ?_ | with_reducible refine w_isi ?_ | with_reducible refine w_cmp2 ?_ | with_reducible refine w_eq bin_add ?_ | with_reducible refine w_eq bi_lenP ?_ | with_reducible refine w_eq (bi_len len_tup) ?_ | with_reducible refine w_eq (bi_len len_lst) ?_ | with_reducible refine w_eq bin_sub ?_ | with_reducible refine w_eq (bin_fdiv (by decide) (by decide)) ?_ | with_reducible refine ⟨_, cmp_neB, ?_⟩ | with_reducible refine ⟨_, cmp_eqB, ?_⟩ | with_reducible refine ⟨_, cmp_neS, ?_⟩ | with_reducible refine ⟨_, cmp_eqS, ?_⟩ | with_reducible refine ⟨_, cmp_eqI, ?_⟩ | with_reducible refine ⟨_, cmp_neI, ?_⟩ | with_reducible refine ⟨_, truth_bool, ?_⟩ | with_reducible refine ⟨_, ix_pr0, ?_⟩ | with_reducible refine ⟨_, ix_pr1, ?_⟩ | with_reducible refine ⟨_, ix_book, ?_⟩ | with_reducible refine ⟨kind_new, ?_⟩ | with_reducible refine ⟨rfl, ?_⟩ | (with_reducible refine ex_id ?_; refine ⟨_, rfl, ?_⟩) | (with_reducible refine w_len ?_; refine ⟨_, rfl, ?_⟩) | (with_reducible refine w_mkT ?_; refine ⟨_, _, rfl, ?_⟩) | (with_reducible refine w_mkL ?_; refine ⟨_, _, rfl, ?_⟩))
    obtain ⟨v, st1, e1, g1, w, rfl, hw0, hw⟩ := pick_gr (k := 29) (many := 9) (by omega) g
    refine w_eq e1 ?_
    repeat (first | (with_reducible refine w_loc ?_; refine ⟨_, rfl, ?_⟩) | (with_reducible refine w_glo ?_; refine ⟨_, rfl, ?_⟩) | with_reducible refine w_con ?_ | with_reducible refine w_set ?_ | with_reducible refine w_ret ?_ | with_reducible refine w_expr ?_ | with_reducible refine w_unp ?_ | with_reducible refine w_par ?_ | with_reducible refine w_ite ?_ | with_reducible refine w_nx ?_ | with_reducible refine w_rt ?_ | with_reducible refine w_nil ?_ | with_reducible refine w_tup ?_ | with_reducible refine w_lst ?_ | with_reducible refine w_bin ?_ | with_reducible refine w_neg ?_ | with_reducible refine w_not ?_ | with_reducible refine w_cmp ?_ | with_reducible refine w_and ?_ | with_reducible refine w_or ?_ | with_reducible refine w_iff ?_ | with_reducible refine w_isN ?_ | with_reducible refine w_isNN ?_ | with_reducible refine w_callC ?_ | with_reducible refine w_call ?_ | with_reducible refine w_bi ?_ | with_reducible refine w_mt ?_ | with_reducible refine w_idx ?_ | with_reducible refine w_slc ?_ | with_reducible refine w_on ?_ | with_reducible refine w_os ?_ | with_reducible refine w_rev ?_ | with_reducible refine w_sset ?_ | with_reducible refine w_lrng ?_ | with_reducible refine w_lc ?_ | with_reducible refine w_enil ?_ | with_reducible refine w_cons ?_ | with_reducible refine w_star ?_ | with_reducible refine w_ex ?_ | with_reducible refine w_rng1 ?_ | with_reducible refine w_rng2 ?_ | with_reducible refine w_enm ?_ | with_reducible refine w_sub ?_ | with_reducible refine w_dct0 ?_ | with_reducible refine w_isi ?_ | with_reducible refine w_cmp2 ?_ | with_reducible refine w_eq bin_add ?_ | with_reducible refine w_eq bi_lenP ?_ | with_reducible refine w_eq (bi_len len_tup) ?_ | with_reducible refine w_eq (bi_len len_lst) ?_ | with_reducible refine w_eq bin_sub ?_ | with_reducible refine w_eq (bin_fdiv (by decide) (by decide)) ?_ | with_reducible refine ⟨_, cmp_neB, ?_⟩ | with_reducible refine ⟨_, cmp_eqB, ?_⟩ | with_reducible refine ⟨_, cmp_neS, ?_⟩ | with_reducible refine ⟨_, cmp_eqS, ?_⟩ | with_reducible refine ⟨_, cmp_eqI, ?_⟩ | with_reducible refine ⟨_, cmp_neI, ?_⟩ | with_reducible refine ⟨_, truth_bool, ?_⟩ | with_reducible refine ⟨_, ix_pr0, ?_⟩ | with_reducible refine ⟨_, ix_pr1, ?_⟩ | with_reducible refine ⟨_, ix_book, ?_⟩ | with_reducible refine ⟨kind_new, ?_⟩ | with_reducible refine ⟨rfl, ?_⟩ | (with_reducible refine ex_id ?_; refine ⟨_, rfl, ?_⟩) | (with_reducible refine w_len ?_; refine ⟨_, rfl, ?_⟩) | (with_reducible refine w_mkT ?_; refine ⟨_, _, rfl, ?_⟩) | (with_reducible refine w_mkL ?_; refine ⟨_, _, rfl, ?_⟩))
    have h1 : 1 ≤ 1 + w := by omega
    have h9 : 1 + w ≤ 9 := by omega
    generalize 1 + w = n at h1 h9 ⊢
    obtain ⟨v, st2, e2, g2, a, rfl, ha, hab⟩ := place_ok (k := 27) (n := n) (by omega) (by omega) g1
    have pa : Sm (10 ^ 30) a := hab.mono (by decide)
    refine w_eq e2 ?_
    repeat (first | (with_reducible refine w_loc ?_; refine ⟨_, rfl, ?_⟩) | (with_reducible refine w_glo ?_; refine ⟨_, rfl, ?_⟩) | with_reducible refine w_con ?_ | with_reducible refine w_set ?_ | with_reducible refine w_ret ?_ | with_reducible refine w_expr ?_ | with_reducible refine w_unp ?_ | with_reducible refine w_par ?_ | with_reducible refine w_ite ?_ | with_reducible refine w_nx ?_ | with_reducible refine w_rt ?_ | with_reducible refine w_nil ?_ | with_reducible refine w_tup ?_ | with_reducible refine w_lst ?_ | with_reducible refine w_bin ?_ | with_reducible refine w_neg ?_ | with_reducible refine w_not ?_ | with_reducible refine w_cmp ?_ | with_reducible refine w_and ?_ | with_reducible refine w_or ?_ | with_reducible refine w_iff ?_ | with_reducible refine w_isN ?_ | with_reducible refine w_isNN ?_ | with_reducible refine w_callC ?_ | with_reducible refine w_call ?_ | with_reducible refine w_bi ?_ | with_reducible refine w_mt ?_ | with_reducible refine w_idx ?_ | with_reducible refine w_slc ?_ | with_reducible refine w_on ?_ | with_reducible refine w_os ?_ | with_reducible refine w_rev ?_ | with_reducible refine w_sset ?_ | with_reducible refine w_lrng ?_ | with_reducible refine w_lc ?_ | with_reducible refine w_enil ?_ | with_reducible refine w_cons ?_ | with_reducible refine w_star ?_ | with_reducible refine w_ex ?_ | with_reducible refine w_rng1 ?_ | with_reducible refine w_rng2 ?_ | with_reducible refine w_enm ?_ | with_reducible refine w_sub ?_ | with_reducible refine w_dct0 ?_ | with_reducible refine w_isi ?_ | with_reducible refine w_cmp2 ?_ | with_reducible refine w_eq bin_add ?_ | with_reducible refine w_eq bi_lenP ?_ | with_reducible refine w_eq (bi_len len_tup) ?_ | with_reducible refine w_eq (bi_len len_lst) ?_ | with_reducible refine w_eq bin_sub ?_ | with_reducible refine w_eq (bin_fdiv (by decide) (by decide)) ?_ | with_reducible refine ⟨_, cmp_neB, ?_⟩ | with_reducible refine ⟨_, cmp_eqB, ?_⟩ | with_reducible refine ⟨_, cmp_neS, ?_⟩ | with_reducible refine ⟨_, cmp_eqS, ?_⟩ | with_reducible refine ⟨_, cmp_eqI, ?_⟩ | with_reducible refine ⟨_, cmp_neI, ?_⟩ | with_reducible refine ⟨_, truth_bool, ?_⟩ | with_reducible refine ⟨_, ix_pr0, ?_⟩ | with_reducible refine ⟨_, ix_pr1, ?_⟩ | with_reducible refine ⟨_, ix_book, ?_⟩ | with_reducible refine ⟨kind_new, ?_⟩ | with_reducible refine ⟨rfl, ?_⟩ | (with_reducible refine ex_id ?_; refine ⟨_, rfl, ?_⟩) | (with_reducible refine w_len ?_; refine ⟨_, rfl, ?_⟩) | (with_reducible refine w_mkT ?_; refine ⟨_, _, rfl, ?_⟩) | (with_reducible refine w_mkL ?_; refine ⟨_, _, rfl, ?_⟩))
    obtain ⟨v, st3, e3, g3, b, rfl, hb, hbb⟩ := alike_ok (k := 27) (ps := a) (by omega) g2
    rw [ha] at hb
    refine w_eq e3 ?_
    repeat (first | (with_reducible refine w_loc ?_; refine ⟨_, rfl, ?_⟩) | (with_reducible refine w_glo ?_; refine ⟨_, rfl, ?_⟩) | with_reducible refine w_con ?_ | with_reducible refine w_set ?_ | with_reducible refine w_ret ?_ | with_reducible refine w_expr ?_ | with_reducible refine w_unp ?_ | with_reducible refine w_par ?_ | with_reducible refine w_ite ?_ | with_reducible refine w_nx ?_ | with_reducible refine w_rt ?_ | with_reducible refine w_nil ?_ | with_reducible refine w_tup ?_ | with_reducible refine w_lst ?_ | with_reducible refine w_bin ?_ | with_reducible refine w_neg ?_ | with_reducible refine w_not ?_ | with_reducible refine w_cmp ?_ | with_reducible refine w_and ?_ | with_reducible refine w_or ?_ | with_reducible refine w_iff ?_ | with_reducible refine w_isN ?_ | with_reducible refine w_isNN ?_ | with_reducible refine w_callC ?_ | with_reducible refine w_call ?_ | with_reducible refine w_bi ?_ | with_reducible refine w_mt ?_ | with_reducible refine w_idx ?_ | with_reducible refine w_slc ?_ | with_reducible refine w_on ?_ | with_reducible refine w_os ?_ | with_reducible refine w_rev ?_ | with_reducible refine w_sset ?_ | with_reducible refine w_lrng ?_ | with_reducible refine w_lc ?_ | with_reducible refine w_enil ?_ | with_reducible refine w_cons ?_ | with_reducible refine w_star ?_ | with_reducible refine w_ex ?_ | with_reducible refine w_rng1 ?_ | with_reducible refine w_rng2 ?_ | with_reducible refine w_enm ?_ | with_reducible refine w_sub ?_ | with_reducible refine w_dct0 ?_ | with_reducible refine w_isi ?_ | with_reducible refine w_cmp2 ?_ | with_reducible refine w_eq bin_add ?_ | with_reducible refine w_eq bi_lenP ?_ | with_reducible refine w_eq (bi_len len_tup) ?_ | with_reducible refine w_eq (bi_len len_lst) ?_ | with_reducible refine w_eq bin_sub ?_ | with_reducible refine w_eq (bin_fdiv (by decide) (by decide)) ?_ | with_reducible refine ⟨_, cmp_neB, ?_⟩ | with_reducible refine ⟨_, cmp_eqB, ?_⟩ | with_reducible refine ⟨_, cmp_neS, ?_⟩ | with_reducible refine ⟨_, cmp_eqS, ?_⟩ | with_reducible refine ⟨_, cmp_eqI, ?_⟩ | with_reducible refine ⟨_, cmp_neI, ?_⟩ | with_reducible refine ⟨_, truth_bool, ?_⟩ | with_reducible refine ⟨_, ix_pr0, ?_⟩ | with_reducible refine ⟨_, ix_pr1, ?_⟩ | with_reducible refine ⟨_, ix_book, ?_⟩ | with_reducible refine ⟨kind_new, ?_⟩ | with_reducible refine ⟨rfl, ?_⟩ | (with_reducible refine ex_id ?_; refine ⟨_, rfl, ?_⟩) | (with_reducible refine w_len ?_; refine ⟨_, rfl, ?_⟩) | (with_reducible refine w_mkT ?_; refine ⟨_, _, rfl, ?_⟩) | (with_reducible refine w_mkL ?_; refine ⟨_, _, rfl, ?_⟩))
    obtain ⟨v, st4, e4, g4, w, rfl, hw0, hw⟩ := pick_gr (k := 29) (many := 3) (by omega) g3
    refine w_eq e4 ?_
    repeat (first | (with_reducible refine w_loc ?_; refine ⟨_, rfl, ?_⟩) | (with_reducible refine w_glo ?_; refine ⟨_, rfl, ?_⟩) | with_reducible refine w_con ?_ | with_reducible refine w_set ?_ | with_reducible refine w_ret ?_ | with_reducible refine w_expr ?_ | with_reducible refine w_unp ?_ | with_reducible refine w_par ?_ | with_reducible refine w_ite ?_ | with_reducible refine w_nx ?_ | with_reducible refine w_rt ?_ | with_reducible refine w_nil ?_ | with_reducible refine w_tup ?_ | with_reducible refine w_lst ?_ | with_reducible refine w_bin ?_ | with_reducible refine w_neg ?_ | with_reducible refine w_not ?_ | with_reducible refine w_cmp ?_ | with_reducible refine w_and ?_ | with_reducible refine w_or ?_ | with_reducible refine w_iff ?_ | with_reducible refine w_isN ?_ | with_reducible refine w_isNN ?_ | with_reducible refine w_callC ?_ | with_reducible refine w_call ?_ | with_reducible refine w_bi ?_ | with_reducible refine w_mt ?_ | with_reducible refine w_idx ?_ | with_reducible refine w_slc ?_ | with_reducible refine w_on ?_ | with_reducible refine w_os ?_ | with_reducible refine w_rev ?_ | with_reducible refine w_sset ?_ | with_reducible refine w_lrng ?_ | with_reducible refine w_lc ?_ | with_reducible refine w_enil ?_ | with_reducible refine w_cons ?_ | with_reducible refine w_star ?_ | with_reducible refine w_ex ?_ | with_reducible refine w_rng1 ?_ | with_reducible refine w_rng2 ?_ | with_reducible refine w_enm ?_ | with_reducible refine w_sub ?_ | with_reducible refine w_dct0 ?_ | with_reducible refine w_isi ?_ | with_reducible refine w_cmp2 ?_ | with_reducible refine w_eq bin_add ?_ | with_reducible refine w_eq bi_lenP ?_ | with_reducible refine w_eq (bi_len len_tup) ?_ | with_reducible refine w_eq (bi_len len_lst) ?_ | with_reducible refine w_eq bin_sub ?_ | with_reducible refine w_eq (bin_fdiv (by decide) (by decide)) ?_ | with_reducible refine ⟨_, cmp_neB, ?_⟩ | with_reducible refine ⟨_, cmp_eqB, ?_⟩ | with_reducible refine ⟨_, cmp_neS, ?_⟩ | with_reducible refine ⟨_, cmp_eqS, ?_⟩ | with_reducible refine ⟨_, cmp_eqI, ?_⟩ | with_reducible refine ⟨_, cmp_neI, ?_⟩ | with_reducible refine ⟨_, truth_bool, ?_⟩ | with_reducible refine ⟨_, ix_pr0, ?_⟩ | with_reducible refine ⟨_, ix_pr1, ?_⟩ | with_reducible refine ⟨_, ix_book, ?_⟩ | with_reducible refine ⟨kind_new, ?_⟩ | with_reducible refine ⟨rfl, ?_⟩ | (with_reducible refine ex_id ?_; refine ⟨_, rfl, ?_⟩) | (with_reducible refine w_len ?_; refine ⟨_, rfl, ?_⟩) | (with_reducible refine w_mkT ?_; refine ⟨_, _, rfl, ?_⟩) | (with_reducible refine w_mkL ?_; refine ⟨_, _, rfl, ?_⟩))
    refine ⟨fun h => ?_, fun h => ?_⟩
    · refine w_set ?_
      repeat (first | (with_reducible refine w_loc ?_; refine ⟨_, rfl, ?_⟩) | with_reducible refine w_con ?_ | with_reducible refine w_callC ?_ | with_reducible refine w_enil ?_ | with_reducible refine w_cons ?_)
      obtain ⟨v, st5, e5, g5, k, rfl, hk0, hk⟩ := pick_gr (k := 29) (many := n) (by omega) g4
      refine w_eq e5 ?_
      have hkn : k < n := by omega
      refine w_set ?_
      repeat (first | (with_reducible refine w_loc ?_; refine ⟨_, rfl, ?_⟩) | (with_reducible refine w_glo ?_; refine ⟨_, rfl, ?_⟩) | with_reducible refine w_con ?_ | with_reducible refine w_set ?_ | with_reducible refine w_ret ?_ | with_reducible refine w_expr ?_ | with_reducible refine w_unp ?_ | with_reducible refine w_par ?_ | with_reducible refine w_ite ?_ | with_reducible refine w_nx ?_ | with_reducible refine w_rt ?_ | with_reducible refine w_nil ?_ | with_reducible refine w_tup ?_ | with_reducible refine w_lst ?_ | with_reducible refine w_bin ?_ | with_reducible refine w_neg ?_ | with_reducible refine w_not ?_ | with_reducible refine w_cmp ?_ | with_reducible refine w_and ?_ | with_reducible refine w_or ?_ | with_reducible refine w_iff ?_ | with_reducible refine w_isN ?_ | with_reducible refine w_isNN ?_ | with_reducible refine w_callC ?_ | with_reducible refine w_call ?_ | with_reducible refine w_bi ?_ | with_reducible refine w_mt ?_ | with_reducible refine w_idx ?_ | with_reducible refine w_slc ?_ | with_reducible refine w_on ?_ | with_reducible refine w_os ?_ | with_reducible refine w_rev ?_ | with_reducible refine w_sset ?_ | with_reducible refine w_lrng ?_ | with_reducible refine w_lc ?_ | with_reducible refine w_enil ?_ | with_reducible refine w_cons ?_ | with_reducible refine w_star ?_ | with_reducible refine w_ex ?_ | with_reducible refine w_rng1 ?_ | with_reducible refine w_rng2 ?_ | with_reducible refine w_enm ?_ | with_reducible refine w_sub ?_ | with_reducible refine w_dct0 ?_ | with_reducible refine w_isi ?_ | with_reducible refine w_cmp2 ?_ | with_reducible refine w_eq bin_add ?_ | with_reducible refine w_eq bi_lenP ?_ | with_reducible refine w_eq (bi_len len_tup) ?_ | with_reducible refine w_eq (bi_len len_lst) ?_ | with_reducible refine w_eq bin_sub ?_ | with_reducible refine w_eq (bin_fdiv (by decide) (by decide)) ?_ | with_reducible refine ⟨_, cmp_neB, ?_⟩ | with_reducible refine ⟨_, cmp_eqB, ?_⟩ | with_reducible refine ⟨_, cmp_neS, ?_⟩ | with_reducible refine ⟨_, cmp_eqS, ?_⟩ | with_reducible refine ⟨_, cmp_eqI, ?_⟩ | with_reducible refine ⟨_, cmp_neI, ?_⟩ | with_reducible refine ⟨_, truth_bool, ?_⟩ | with_reducible refine ⟨_, ix_pr0, ?_⟩ | with_reducible refine ⟨_, ix_pr1, ?_⟩ | with_reducible refine ⟨_, ix_book, ?_⟩ | with_reducible refine ⟨kind_new, ?_⟩ | with_reducible refine ⟨rfl, ?_⟩ | (with_reducible refine ex_id ?_; refine ⟨_, rfl, ?_⟩) | (with_reducible refine w_len ?_; refine ⟨_, rfl, ?_⟩) | (with_reducible refine w_mkT ?_; refine ⟨_, _, rfl, ?_⟩) | (with_reducible refine w_mkL ?_; refine ⟨_, _, rfl, ?_⟩))
      refine w_eq (slt_take (by omega) (by rw [List.length_map]; omega)) ?_
      rw [← List.map_take]
      repeat (first | (with_reducible refine w_loc ?_; refine ⟨_, rfl, ?_⟩) | (with_reducible refine w_glo ?_; refine ⟨_, rfl, ?_⟩) | with_reducible refine w_con ?_ | with_reducible refine w_set ?_ | with_reducible refine w_ret ?_ | with_reducible refine w_expr ?_ | with_reducible refine w_unp ?_ | with_reducible refine w_par ?_ | with_reducible refine w_ite ?_ | with_reducible refine w_nx ?_ | with_reducible refine w_rt ?_ | with_reducible refine w_nil ?_ | with_reducible refine w_tup ?_ | with_reducible refine w_lst ?_ | with_reducible refine w_bin ?_ | with_reducible refine w_neg ?_ | with_reducible refine w_not ?_ | with_reducible refine w_cmp ?_ | with_reducible refine w_and ?_ | with_reducible refine w_or ?_ | with_reducible refine w_iff ?_ | with_reducible refine w_isN ?_ | with_reducible refine w_isNN ?_ | with_reducible refine w_callC ?_ | with_reducible refine w_call ?_ | with_reducible refine w_bi ?_ | with_reducible refine w_mt ?_ | with_reducible refine w_idx ?_ | with_reducible refine w_slc ?_ | with_reducible refine w_on ?_ | with_reducible refine w_os ?_ | with_reducible refine w_rev ?_ | with_reducible refine w_sset ?_ | with_reducible refine w_lrng ?_ | with_reducible refine w_lc ?_ | with_reducible refine w_enil ?_ | with_reducible refine w_cons ?_ | with_reducible refine w_star ?_ | with_reducible refine w_ex ?_ | with_reducible refine w_rng1 ?_ | with_reducible refine w_rng2 ?_ | with_reducible refine w_enm ?_ | with_reducible refine w_sub ?_ | with_reducible refine w_dct0 ?_ | with_reducible refine w_isi ?_ | with_reducible refine w_cmp2 ?_ | with_reducible refine w_eq bin_add ?_ | with_reducible refine w_eq bi_lenP ?_ | with_reducible refine w_eq (bi_len len_tup) ?_ | with_reducible refine w_eq (bi_len len_lst) ?_ | with_reducible refine w_eq bin_sub ?_ | with_reducible refine w_eq (bin_fdiv (by decide) (by decide)) ?_ | with_reducible refine ⟨_, cmp_neB, ?_⟩ | with_reducible refine ⟨_, cmp_eqB, ?_⟩ | with_reducible refine ⟨_, cmp_neS, ?_⟩ | with_reducible refine ⟨_, cmp_eqS, ?_⟩ | with_reducible refine ⟨_, cmp_eqI, ?_⟩ | with_reducible refine ⟨_, cmp_neI, ?_⟩ | with_reducible refine ⟨_, truth_bool, ?_⟩ | with_reducible refine ⟨_, ix_pr0, ?_⟩ | with_reducible refine ⟨_, ix_pr1, ?_⟩ | with_reducible refine ⟨_, ix_book, ?_⟩ | with_reducible refine ⟨kind_new, ?_⟩ | with_reducible refine ⟨rfl, ?_⟩ | (with_reducible refine ex_id ?_; refine ⟨_, rfl, ?_⟩) | (with_reducible refine w_len ?_; refine ⟨_, rfl, ?_⟩) | (with_reducible refine w_mkT ?_; refine ⟨_, _, rfl, ?_⟩) | (with_reducible refine w_mkL ?_; refine ⟨_, _, rfl, ?_⟩))
      refine ⟨_, ix_pl (by omega) (by omega), ?_⟩
      repeat (first | (with_reducible refine w_loc ?_; refine ⟨_, rfl, ?_⟩) | (with_reducible refine w_glo ?_; refine ⟨_, rfl, ?_⟩) | with_reducible refine w_con ?_ | with_reducible refine w_set ?_ | with_reducible refine w_ret ?_ | with_reducible refine w_expr ?_ | with_reducible refine w_unp ?_ | with_reducible refine w_par ?_ | with_reducible refine w_ite ?_ | with_reducible refine w_nx ?_ | with_reducible refine w_rt ?_ | with_reducible refine w_nil ?_ | with_reducible refine w_tup ?_ | with_reducible refine w_lst ?_ | with_reducible refine w_bin ?_ | with_reducible refine w_neg ?_ | with_reducible refine w_not ?_ | with_reducible refine w_cmp ?_ | with_reducible refine w_and ?_ | with_reducible refine w_or ?_ | with_reducible refine w_iff ?_ | with_reducible refine w_isN ?_ | with_reducible refine w_isNN ?_ | with_reducible refine w_callC ?_ | with_reducible refine w_call ?_ | with_reducible refine w_bi ?_ | with_reducible refine w_mt ?_ | with_reducible refine w_idx ?_ | with_reducible refine w_slc ?_ | with_reducible refine w_on ?_ | with_reducible refine w_os ?_ | with_reducible refine w_rev ?_ | with_reducible refine w_sset ?_ | with_reducible refine w_lrng ?_ | with_reducible refine w_lc ?_ | with_reducible refine w_enil ?_ | with_reducible refine w_cons ?_ | with_reducible refine w_star ?_ | with_reducible refine w_ex ?_ | with_reducible refine w_rng1 ?_ | with_reducible refine w_rng2 ?_ | with_reducible refine w_enm ?_ | with_reducible refine w_sub ?_ | with_reducible refine w_dct0 ?_ | with_reducible refine w_isi ?_ | with_reducible refine w_cmp2 ?_ | with_reducible refine w_eq bin_add ?_ | with_reducible refine w_eq bi_lenP ?_ | with_reducible refine w_eq (bi_len len_tup) ?_ | with_reducible refine w_eq (bi_len len_lst) ?_ | with_reducible refine w_eq bin_sub ?_ | with_reducible refine w_eq (bin_fdiv (by decide) (by decide)) ?_ | with_reducible refine ⟨_, cmp_neB, ?_⟩ | with_reducible refine ⟨_, cmp_eqB, ?_⟩ | with_reducible refine ⟨_, cmp_neS, ?_⟩ | with_reducible refine ⟨_, cmp_eqS, ?_⟩ | with_reducible refine ⟨_, cmp_eqI, ?_⟩ | with_reducible refine ⟨_, cmp_neI, ?_⟩ | with_reducible refine ⟨_, truth_bool, ?_⟩ | with_reducible refine ⟨_, ix_pr0, ?_⟩ | with_reducible refine ⟨_, ix_pr1, ?_⟩ | with_reducible refine ⟨_, ix_book, ?_⟩ | with_reducible refine ⟨kind_new, ?_⟩ | with_reducible refine ⟨rfl, ?_⟩ | (with_reducible refine ex_id ?_; refine ⟨_, rfl, ?_⟩) | (with_reducible refine w_len ?_; refine ⟨_, rfl, ?_⟩) | (with_reducible refine w_mkT ?_; refine ⟨_, _, rfl, ?_⟩) | (with_reducible refine w_mkL ?_; refine ⟨_, _, rfl, ?_⟩))
      refine w_eq (a := .d (.int 1000000000000000000000)) rfl ?_
      repeat (first | (with_reducible refine w_loc ?_; refine ⟨_, rfl, ?_⟩) | (with_reducible refine w_glo ?_; refine ⟨_, rfl, ?_⟩) | with_reducible refine w_con ?_ | with_reducible refine w_set ?_ | with_reducible refine w_ret ?_ | with_reducible refine w_expr ?_ | with_reducible refine w_unp ?_ | with_reducible refine w_par ?_ | with_reducible refine w_ite ?_ | with_reducible refine w_nx ?_ | with_reducible refine w_rt ?_ | with_reducible refine w_nil ?_ | with_reducible refine w_tup ?_ | with_reducible refine w_lst ?_ | with_reducible refine w_bin ?_ | with_reducible refine w_neg ?_ | with_reducible refine w_not ?_ | with_reducible refine w_cmp ?_ | with_reducible refine w_and ?_ | with_reducible refine w_or ?_ | with_reducible refine w_iff ?_ | with_reducible refine w_isN ?_ | with_reducible refine w_isNN ?_ | with_reducible refine w_callC ?_ | with_reducible refine w_call ?_ | with_reducible refine w_bi ?_ | with_reducible refine w_mt ?_ | with_reducible refine w_idx ?_ | with_reducible refine w_slc ?_ | with_reducible refine w_on ?_ | with_reducible refine w_os ?_ | with_reducible refine w_rev ?_ | with_reducible refine w_sset ?_ | with_reducible refine w_lrng ?_ | with_reducible refine w_lc ?_ | with_reducible refine w_enil ?_ | with_reducible refine w_cons ?_ | with_reducible refine w_star ?_ | with_reducible refine w_ex ?_ | with_reducible refine w_rng1 ?_ | with_reducible refine w_rng2 ?_ | with_reducible refine w_enm ?_ | with_reducible refine w_sub ?_ | with_reducible refine w_dct0 ?_ | with_reducible refine w_isi ?_ | with_reducible refine w_cmp2 ?_ | with_reducible refine w_eq bin_add ?_ | with_reducible refine w_eq bi_lenP ?_ | with_reducible refine w_eq (bi_len len_tup) ?_ | with_reducible refine w_eq (bi_len len_lst) ?_ | with_reducible refine w_eq bin_sub ?_ | with_reducible refine w_eq (bin_fdiv (by decide) (by decide)) ?_ | with_reducible refine ⟨_, cmp_neB, ?_⟩ | with_reducible refine ⟨_, cmp_eqB, ?_⟩ | with_reducible refine ⟨_, cmp_neS, ?_⟩ | with_reducible refine ⟨_, cmp_eqS, ?_⟩ | with_reducible refine ⟨_, cmp_eqI, ?_⟩ | with_reducible refine ⟨_, cmp_neI, ?_⟩ | with_reducible refine ⟨_, truth_bool, ?_⟩ | with_reducible refine ⟨_, ix_pr0, ?_⟩ | with_reducible refine ⟨_, ix_pr1, ?_⟩ | with_reducible refine ⟨_, ix_book, ?_⟩ | with_reducible refine ⟨kind_new, ?_⟩ | with_reducible refine ⟨rfl, ?_⟩ | (with_reducible refine ex_id ?_; refine ⟨_, rfl, ?_⟩) | (with_reducible refine w_len ?_; refine ⟨_, rfl, ?_⟩) | (with_reducible refine w_mkT ?_; refine ⟨_, _, rfl, ?_⟩) | (with_reducible refine w_mkL ?_; refine ⟨_, _, rfl, ?_⟩))
      obtain ⟨v, st6, e6, g6, z, hz, rfl⟩ := of_gr (k := 28) (d := .list [.int 1, .int (-1), .int 1000000000000000000000]) (.inl rfl) (by simp) (by simp) g5
      refine w_eq e6 ?_
      obtain ⟨m, rfl, hm⟩ : ∃ m : Int, z = .int m ∧ (m = 1 ∨ m = -1 ∨ m = 1000000000000000000000) := by
        simp only [List.mem_cons, List.not_mem_nil, or_false] at hz
        rcases hz with e | e | e
        · exact ⟨1, e, .inl rfl⟩
        · exact ⟨-1, e, .inr (.inl rfl)⟩
        · exact ⟨_, e, .inr (.inr rfl)⟩
      repeat (first | (with_reducible refine w_loc ?_; refine ⟨_, rfl, ?_⟩) | (with_reducible refine w_glo ?_; refine ⟨_, rfl, ?_⟩) | with_reducible refine w_con ?_ | with_reducible refine w_set ?_ | with_reducible refine w_ret ?_ | with_reducible refine w_expr ?_ | with_reducible refine w_unp ?_ | with_reducible refine w_par ?_ | with_reducible refine w_ite ?_ | with_reducible refine w_nx ?_ | with_reducible refine w_rt ?_ | with_reducible refine w_nil ?_ | with_reducible refine w_tup ?_ | with_reducible refine w_lst ?_ | with_reducible refine w_bin ?_ | with_reducible refine w_neg ?_ | with_reducible refine w_not ?_ | with_reducible refine w_cmp ?_ | with_reducible refine w_and ?_ | with_reducible refine w_or ?_ | with_reducible refine w_iff ?_ | with_reducible refine w_isN ?_ | with_reducible refine w_isNN ?_ | with_reducible refine w_callC ?_ | with_reducible refine w_call ?_ | with_reducible refine w_bi ?_ | with_reducible refine w_mt ?_ | with_reducible refine w_idx ?_ | with_reducible refine w_slc ?_ | with_reducible refine w_on ?_ | with_reducible refine w_os ?_ | with_reducible refine w_rev ?_ | with_reducible refine w_sset ?_ | with_reducible refine w_lrng ?_ | with_reducible refine w_lc ?_ | with_reducible refine w_enil ?_ | with_reducible refine w_cons ?_ | with_reducible refine w_star ?_ | with_reducible refine w_ex ?_ | with_reducible refine w_rng1 ?_ | with_reducible refine w_rng2 ?_ | with_reducible refine w_enm ?_ | with_reducible refine w_sub ?_ | with_reducible refine w_dct0 ?_ | with_reducible refine w_isi ?_ | with_reducible refine w_cmp2 ?_ | with_reducible refine w_eq bin_add ?_ | with_reducible refine w_eq bi_lenP ?_ | with_reducible refine w_eq (bi_len len_tup) ?_ | with_reducible refine w_eq (bi_len len_lst) ?_ | with_reducible refine w_eq bin_sub ?_ | with_reducible refine w_eq (bin_fdiv (by decide) (by decide)) ?_ | with_reducible refine ⟨_, cmp_neB, ?_⟩ | with_reducible refine ⟨_, cmp_eqB, ?_⟩ | with_reducible refine ⟨_, cmp_neS, ?_⟩ | with_reducible refine ⟨_, cmp_eqS, ?_⟩ | with_reducible refine ⟨_, cmp_eqI, ?_⟩ | with_reducible refine ⟨_, cmp_neI, ?_⟩ | with_reducible refine ⟨_, truth_bool, ?_⟩ | with_reducible refine ⟨_, ix_pr0, ?_⟩ | with_reducible refine ⟨_, ix_pr1, ?_⟩ | with_reducible refine ⟨_, ix_book, ?_⟩ | with_reducible refine ⟨kind_new, ?_⟩ | with_reducible refine ⟨rfl, ?_⟩ | (with_reducible refine ex_id ?_; refine ⟨_, rfl, ?_⟩) | (with_reducible refine w_len ?_; refine ⟨_, rfl, ?_⟩) | (with_reducible refine w_mkT ?_; refine ⟨_, _, rfl, ?_⟩) | (with_reducible refine w_mkL ?_; refine ⟨_, _, rfl, ?_⟩))
      refine w_eq (add_tup (by simp only [List.length_map, List.length_take, List.length_cons, List.length_nil]; omega)) ?_
      repeat (first | (with_reducible refine w_loc ?_; refine ⟨_, rfl, ?_⟩) | (with_reducible refine w_glo ?_; refine ⟨_, rfl, ?_⟩) | with_reducible refine w_con ?_ | with_reducible refine w_set ?_ | with_reducible refine w_ret ?_ | with_reducible refine w_expr ?_ | with_reducible refine w_unp ?_ | with_reducible refine w_par ?_ | with_reducible refine w_ite ?_ | with_reducible refine w_nx ?_ | with_reducible refine w_rt ?_ | with_reducible refine w_nil ?_ | with_reducible refine w_tup ?_ | with_reducible refine w_lst ?_ | with_reducible refine w_bin ?_ | with_reducible refine w_neg ?_ | with_reducible refine w_not ?_ | with_reducible refine w_cmp ?_ | with_reducible refine w_and ?_ | with_reducible refine w_or ?_ | with_reducible refine w_iff ?_ | with_reducible refine w_isN ?_ | with_reducible refine w_isNN ?_ | with_reducible refine w_callC ?_ | with_reducible refine w_call ?_ | with_reducible refine w_bi ?_ | with_reducible refine w_mt ?_ | with_reducible refine w_idx ?_ | with_reducible refine w_slc ?_ | with_reducible refine w_on ?_ | with_reducible refine w_os ?_ | with_reducible refine w_rev ?_ | with_reducible refine w_sset ?_ | with_reducible refine w_lrng ?_ | with_reducible refine w_lc ?_ | with_reducible refine w_enil ?_ | with_reducible refine w_cons ?_ | with_reducible refine w_star ?_ | with_reducible refine w_ex ?_ | with_reducible refine w_rng1 ?_ | with_reducible refine w_rng2 ?_ | with_reducible refine w_enm ?_ | with_reducible refine w_sub ?_ | with_reducible refine w_dct0 ?_ | with_reducible refine w_isi ?_ | with_reducible refine w_cmp2 ?_ | with_reducible refine w_eq bin_add ?_ | with_reducible refine w_eq bi_lenP ?_ | with_reducible refine w_eq (bi_len len_tup) ?_ | with_reducible refine w_eq (bi_len len_lst) ?_ | with_reducible refine w_eq bin_sub ?_ | with_reducible refine w_eq (bin_fdiv (by decide) (by decide)) ?_ | with_reducible refine ⟨_, cmp_neB, ?_⟩ | with_reducible refine ⟨_, cmp_eqB, ?_⟩ | with_reducible refine ⟨_, cmp_neS, ?_⟩ | with_reducible refine ⟨_, cmp_eqS, ?_⟩ | with_reducible refine ⟨_, cmp_eqI, ?_⟩ | with_reducible refine ⟨_, cmp_neI, ?_⟩ | with_reducible refine ⟨_, truth_bool, ?_⟩ | with_reducible refine ⟨_, ix_pr0, ?_⟩ | with_reducible refine ⟨_, ix_pr1, ?_⟩ | with_reducible refine ⟨_, ix_book, ?_⟩ | with_reducible refine ⟨kind_new, ?_⟩ | with_reducible refine ⟨rfl, ?_⟩ | (with_reducible refine ex_id ?_; refine ⟨_, rfl, ?_⟩) | (with_reducible refine w_len ?_; refine ⟨_, rfl, ?_⟩) | (with_reducible refine w_mkT ?_; refine ⟨_, _, rfl, ?_⟩) | (with_reducible refine w_mkL ?_; refine ⟨_, _, rfl, ?_⟩))
      refine w_eq (slt_drop (by omega) (by rw [List.length_map]; omega)) ?_
      rw [← List.map_drop]
      repeat (first | (with_reducible refine w_loc ?_; refine ⟨_, rfl, ?_⟩) | (with_reducible refine w_glo ?_; refine ⟨_, rfl, ?_⟩) | with_reducible refine w_con ?_ | with_reducible refine w_set ?_ | with_reducible refine w_ret ?_ | with_reducible refine w_expr ?_ | with_reducible refine w_unp ?_ | with_reducible refine w_par ?_ | with_reducible refine w_ite ?_ | with_reducible refine w_nx ?_ | with_reducible refine w_rt ?_ | with_reducible refine w_nil ?_ | with_reducible refine w_tup ?_ | with_reducible refine w_lst ?_ | with_reducible refine w_bin ?_ | with_reducible refine w_neg ?_ | with_reducible refine w_not ?_ | with_reducible refine w_cmp ?_ | with_reducible refine w_and ?_ | with_reducible refine w_or ?_ | with_reducible refine w_iff ?_ | with_reducible refine w_isN ?_ | with_reducible refine w_isNN ?_ | with_reducible refine w_callC ?_ | with_reducible refine w_call ?_ | with_reducible refine w_bi ?_ | with_reducible refine w_mt ?_ | with_reducible refine w_idx ?_ | with_reducible refine w_slc ?_ | with_reducible refine w_on ?_ | with_reducible refine w_os ?_ | with_reducible refine w_rev ?_ | with_reducible refine w_sset ?_ | with_reducible refine w_lrng ?_ | with_reducible refine w_lc ?_ | with_reducible refine w_enil ?_ | with_reducible refine w_cons ?_ | with_reducible refine w_star ?_ | with_reducible refine w_ex ?_ | with_reducible refine w_rng1 ?_ | with_reducible refine w_rng2 ?_ | with_reducible refine w_enm ?_ | with_reducible refine w_sub ?_ | with_reducible refine w_dct0 ?_ | with_reducible refine w_isi ?_ | with_reducible refine w_cmp2 ?_ | with_reducible refine w_eq bin_add ?_ | with_reducible refine w_eq bi_lenP ?_ | with_reducible refine w_eq (bi_len len_tup) ?_ | with_reducible refine w_eq (bi_len len_lst) ?_ | with_reducible refine w_eq bin_sub ?_ | with_reducible refine w_eq (bin_fdiv (by decide) (by decide)) ?_ | with_reducible refine ⟨_, cmp_neB, ?_⟩ | with_reducible refine ⟨_, cmp_eqB, ?_⟩ | with_reducible refine ⟨_, cmp_neS, ?_⟩ | with_reducible refine ⟨_, cmp_eqS, ?_⟩ | with_reducible refine ⟨_, cmp_eqI, ?_⟩ | with_reducible refine ⟨_, cmp_neI, ?_⟩ | with_reducible refine ⟨_, truth_bool, ?_⟩ | with_reducible refine ⟨_, ix_pr0, ?_⟩ | with_reducible refine ⟨_, ix_pr1, ?_⟩ | with_reducible refine ⟨_, ix_book, ?_⟩ | with_reducible refine ⟨kind_new, ?_⟩ | with_reducible refine ⟨rfl, ?_⟩ | (with_reducible refine ex_id ?_; refine ⟨_, rfl, ?_⟩) | (with_reducible refine w_len ?_; refine ⟨_, rfl, ?_⟩) | (with_reducible refine w_mkT ?_; refine ⟨_, _, rfl, ?_⟩) | (with_reducible refine w_mkL ?_; refine ⟨_, _, rfl, ?_⟩))
      refine w_eq (add_tup (by simp only [List.length_append, List.length_map, List.length_take, List.length_drop, List.length_cons, List.length_nil]; omega)) ?_
      have el : (b.take k.toNat).map PyData.int ++ [PyData.int (gt b k + m)] ++ (b.drop (k + 1).toNat).map PyData.int = (b.take k.toNat ++ [gt b k + m] ++ b.drop (k + 1).toNat).map PyData.int := by
        rw [List.map_append, List.map_append]
        rfl
      rw [el]
      refine w_nil (w_nx ?_)
      refine fin12b h1 h9 ha (by simp only [List.length_append, List.length_take, List.length_drop, List.length_cons, List.length_nil]; omega) pa (fun x hx => ?_) g6
      have hgt := hbb _ (gt_mem (ns := b) hk0 (by omega))
      rcases List.mem_append.mp hx with hx | hx
      · rcases List.mem_append.mp hx with hx | hx
        · exact Nat.le_trans (hbb x (List.mem_of_mem_take hx)) (by decide)
        · rw [List.mem_singleton] at hx
          subst hx
          have h30 : (10 : Nat) ^ 25 + 10 ^ 21 ≤ 10 ^ 30 := by decide
          omega
      · exact Nat.le_trans (hbb x (List.mem_of_mem_drop hx)) (by decide)
    · refine w_nil (w_nx ?_)
      exact fin12b h1 h9 ha hb pa (hbb.mono (by decide)) g4
  · subst he
    show Ok (evSs (⟨calls gdefs gglo 30, gglo⟩ : Ck) (.cons (.ret _) _) _ st) _
    repeat (first | (with_reducible refine w_loc ?_; refine ⟨_, rfl, ?_⟩) | (with_reducible refine w_glo ?_; refine ⟨_, rfl, ?_⟩) | with_reducible refine w_con ?_ | with_reducible refine w_set ?_ | with_reducible refine w_ret ?_ | with_reducible refine w_expr ?_ | with_reducible refine w_unp ?_ | with_reducible refine w_par ?_ | with_reducible refine w_ite ?_ | with_reducible refine w_nx ?_ | with_reducible refine w_rt ?_ | with_reducible refine w_nil ?_ | with_reducible refine w_tup ?_ | with_reducible refine w_lst ?_ | with_reducible refine w_bin ?_ | with_reducible refine w_neg ?_ | with_reducible refine w_not ?_ | with_reducible refine w_cmp ?_ | with_reducible refine w_and ?_ | with_reducible refine w_or ?_ | with_reducible refine w_iff ?_ | with_reducible refine w_isN ?_ | with_reducible refine w_isNN ?_ | with_reducible refine w_callC ?_ | with_reducible refine w_call ?_ | with_reducible refine w_bi ?_ | with_reducible refine w_mt ?_ | with_reducible refine w_idx ?_ | with_reducible refine w_slc ?_ | with_reducible refine w_on ?_ | with_reducible refine w_os ?_ | with_reducible refine w_rev ?_ | with_reducible refine w_sset ?_ | with_reducible refine w_lrng ?_ | with_reducible refine w_lc ?_ | with_reducible refine w_enil ?_ | with_reducible refine w_cons ?_ | with_reducible refine w_star ?_ | with_reducible refine w_ex ?_ | with_reducible refine w_rng1 ?_ | with_reducible refine w_rng2 ?_ | with_reducible refine w_enm ?_ | with_reducible refine w_sub ?_ | with_reducible refine w_dct0 ?_ | with_reducible refine w_isi ?_ | with_reducible refine w_cmp2 ?_ | with_reducible refine w_eq bin_add ?_ | with_reducible refine w_eq bi_lenP ?_ | with_reducible refine w_eq (bi_len len_tup) ?_ | with_reducible refine w_eq (bi_len len_lst) ?_ | with_reducible refine w_eq bin_sub ?_ | with_reducible refine w_eq (bin_fdiv (by decide) (by decide)) ?_ | with_reducible refine ⟨_, cmp_neB, ?_⟩ | with_reducible refine ⟨_, cmp_eqB, ?_⟩ | with_reducible refine ⟨_, cmp_neS, ?_⟩ | with_reducible refine ⟨_, cmp_eqS, ?_⟩ | with_reducible refine ⟨_, cmp_eqI, ?_⟩ | with_reducible refine ⟨_, cmp_neI, ?_⟩ | with_reducible refine ⟨_, truth_bool, ?_⟩ | with_reducible refine ⟨_, ix_pr0, ?_⟩ | with_reducible refine ⟨_, ix_pr1, ?_⟩ | with_reducible refine ⟨_, ix_book, ?_⟩ | with_reducible refine ⟨kind_new, ?_⟩ | with_reducible refine ⟨rfl, ?_⟩ | (with_reducible refine ex_id ?_; refine ⟨_, rfl, ?_⟩) | (with_reducible refine w_len ?_; refine ⟨_, rfl, ?_⟩) | (with_reducible refine w_mkT ?_; refine ⟨_, _, rfl, ?_⟩) | (with_reducible refine w_mkL ?_; refine ⟨_, _, rfl, ?_⟩))
    refine w_eq (c12a _) ?_
    repeat (first | (with_reducible refine w_loc ?_; refine ⟨_, rfl, ?_⟩) | (with_reducible refine w_glo ?_; refine ⟨_, rfl, ?_⟩) | with_reducible refine w_con ?_ | with_reducible refine w_set ?_ | with_reducible refine w_ret ?_ | with_reducible refine w_expr ?_ | with_reducible refine w_unp ?_ | with_reducible refine w_par ?_ | with_reducible refine w_ite ?_ | with_reducible refine w_nx ?_ | with_reducible refine w_rt ?_ | with_reducible refine w_nil ?_ | with_reducible refine w_tup ?_ | with_reducible refine w_lst ?_ | with_reducible refine w_bin ?_ | with_reducible refine w_neg ?_ | with_reducible refine w_not ?_ | with_reducible refine w_cmp ?_ | with_reducible refine w_and ?_ | with_reducible refine w_or ?_ | with_reducible refine w_iff ?_ | with_reducible refine w_isN ?_ | with_reducible refine w_isNN ?_ | with_reducible refine w_callC ?_ | with_reducible refine w_call ?_ | with_reducible refine w_bi ?_ | with_reducible refine w_mt ?_ | with_reducible refine w_idx ?_ | with_reducible refine w_slc ?_ | with_reducible refine w_on ?_ | with_reducible refine w_os ?_ | with_reducible refine w_rev ?_ | with_reducible refine w_sset ?_ | with_reducible refine w_lrng ?_ | with_reducible refine w_lc ?_ | with_reducible refine w_enil ?_ | with_reducible refine w_cons ?_ | with_reducible refine w_star ?_ | with_reducible refine w_ex ?_ | with_reducible refine w_rng1 ?_ | with_reducible refine w_rng2 ?_ | with_reducible refine w_enm ?_ | with_reducible refine w_sub ?_ | with_reducible refine w_dct0 ?_ | with_reducible refine w_isi ?_ | with_reducible refine w_cmp2 ?_ | with_reducible refine w_eq bin_add ?_ | with_reducible refine w_eq bi_lenP ?_ | with_reducible refine w_eq (bi_len len_tup) ?_ | with_reducible refine w_eq (bi_len len_lst) ?_ | with_reducible refine w_eq bin_sub ?_ | with_reducible refine w_eq (bin_fdiv (by decide) (by decide)) ?_ | with_reducible refine ⟨_, cmp_neB, ?_⟩ | with_reducible refine ⟨_, cmp_eqB, ?_⟩ | with_reducible refine ⟨_, cmp_neS, ?_⟩ | with_reducible refine ⟨_, cmp_eqS, ?_⟩ | with_reducible refine ⟨_, cmp_eqI, ?_⟩ | with_reducible refine ⟨_, cmp_neI, ?_⟩ | with_reducible refine ⟨_, truth_bool, ?_⟩ | with_reducible refine ⟨_, ix_pr0, ?_⟩ | with_reducible refine ⟨_, ix_pr1, ?_⟩ | with_reducible refine ⟨_, ix_book, ?_⟩ | with_reducible refine ⟨kind_new, ?_⟩ | with_reducible refine ⟨rfl, ?_⟩ | (with_reducible refine ex_id ?_; refine ⟨_, rfl, ?_⟩) | (with_reducible refine w_len ?_; refine ⟨_, rfl, ?_⟩) | (with_reducible refine w_mkT ?_; refine ⟨_, _, rfl, ?_⟩) | (with_reducible refine w_mkL ?_; refine ⟨_, _, rfl, ?_⟩))
    refine conj_t rfl ?_
    repeat (first | (with_reducible refine w_loc ?_; refine ⟨_, rfl, ?_⟩) | (with_reducible refine w_glo ?_; refine ⟨_, rfl, ?_⟩) | with_reducible refine w_con ?_ | with_reducible refine w_set ?_ | with_reducible refine w_ret ?_ | with_reducible refine w_expr ?_ | with_reducible refine w_unp ?_ | with_reducible refine w_par ?_ | with_reducible refine w_ite ?_ | with_reducible refine w_nx ?_ | with_reducible refine w_rt ?_ | with_reducible refine w_nil ?_ | with_reducible refine w_tup ?_ | with_reducible refine w_lst ?_ | with_reducible refine w_bin ?_ | with_reducible refine w_neg ?_ | with_reducible refine w_not ?_ | with_reducible refine w_cmp ?_ | with_reducible refine w_and ?_ | with_reducible refine w_or ?_ | with_reducible refine w_iff ?_ | with_reducible refine w_isN ?_ | with_reducible refine w_isNN ?_ | with_reducible refine w_callC ?_ | with_reducible refine w_call ?_ | with_reducible refine w_bi ?_ | with_reducible refine w_mt ?_ | with_reducible refine w_idx ?_ | with_reducible refine w_slc ?_ | with_reducible refine w_on ?_ | with_reducible refine w_os ?_ | with_reducible refine w_rev ?_ | with_reducible refine w_sset ?_ | with_reducible refine w_lrng ?_ | with_reducible refine w_lc ?_ | with_reducible refine w_enil ?_ | with_reducible refine w_cons ?_ | with_reducible refine w_star ?_ | with_reducible refine w_ex ?_ | with_reducible refine w_rng1 ?_ | with_reducible refine w_rng2 ?_ | with_reducible refine w_enm ?_ | with_reducible refine w_sub ?_ | with_reducible refine w_dct0 ?_ | with_reducible refine w_isi ?_ | with_reducible refine w_cmp2 ?_ | with_reducible refine w_eq bin_add ?_ | with_reducible refine w_eq bi_lenP ?_ | with_reducible refine w_eq (bi_len len_tup) ?_ | with_reducible refine w_eq (bi_len len_lst) ?_ | with_reducible refine w_eq bin_sub ?_ | with_reducible refine w_eq (bin_fdiv (by decide) (by decide)) ?_ | with_reducible refine ⟨_, cmp_neB, ?_⟩ | with_reducible refine ⟨_, cmp_eqB, ?_⟩ | with_reducible refine ⟨_, cmp_neS, ?_⟩ | with_reducible refine ⟨_, cmp_eqS, ?_⟩ | with_reducible refine ⟨_, cmp_eqI, ?_⟩ | with_reducible refine ⟨_, cmp_neI, ?_⟩ | with_reducible refine ⟨_, truth_bool, ?_⟩ | with_reducible refine ⟨_, ix_pr0, ?_⟩ | with_reducible refine ⟨_, ix_pr1, ?_⟩ | with_reducible refine ⟨_, ix_book, ?_⟩ | with_reducible refine ⟨kind_new, ?_⟩ | with_reducible refine ⟨rfl, ?_⟩ | (with_reducible refine ex_id ?_; refine ⟨_, rfl, ?_⟩) | (with_reducible refine w_len ?_; refine ⟨_, rfl, ?_⟩) | (with_reducible refine w_mkT ?_; refine ⟨_, _, rfl, ?_⟩) | (with_reducible refine w_mkL ?_; refine ⟨_, _, rfl, ?_⟩))
    refine w_eq (c12b _) ?_
    repeat (first | (with_reducible refine w_loc ?_; refine ⟨_, rfl, ?_⟩) | (with_reducible refine w_glo ?_; refine ⟨_, rfl, ?_⟩) | with_reducible refine w_con ?_ | with_reducible refine w_set ?_ | with_reducible refine w_ret ?_ | with_reducible refine w_expr ?_ | with_reducible refine w_unp ?_ | with_reducible refine w_par ?_ | with_reducible refine w_ite ?_ | with_reducible refine w_nx ?_ | with_reducible refine w_rt ?_ | with_reducible refine w_nil ?_ | with_reducible refine w_tup ?_ | with_reducible refine w_lst ?_ | with_reducible refine w_bin ?_ | with_reducible refine w_neg ?_ | with_reducible refine w_not ?_ | with_reducible refine w_cmp ?_ | with_reducible refine w_and ?_ | with_reducible refine w_or ?_ | with_reducible refine w_iff ?_ | with_reducible refine w_isN ?_ | with_reducible refine w_isNN ?_ | with_reducible refine w_callC ?_ | with_reducible refine w_call ?_ | with_reducible refine w_bi ?_ | with_reducible refine w_mt ?_ | with_reducible refine w_idx ?_ | with_reducible refine w_slc ?_ | with_reducible refine w_on ?_ | with_reducible refine w_os ?_ | with_reducible refine w_rev ?_ | with_reducible refine w_sset ?_ | with_reducible refine w_lrng ?_ | with_reducible refine w_lc ?_ | with_reducible refine w_enil ?_ | with_reducible refine w_cons ?_ | with_reducible refine w_star ?_ | with_reducible refine w_ex ?_ | with_reducible refine w_rng1 ?_ | with_reducible refine w_rng2 ?_ | with_reducible refine w_enm ?_ | with_reducible refine w_sub ?_ | with_reducible refine w_dct0 ?_ | with_reducible refine w_isi ?_ | with_reducible refine w_cmp2 ?_ | with_reducible refine w_eq bin_add ?_ | with_reducible refine w_eq bi_lenP ?_ | with_reducible refine w_eq (bi_len len_tup) ?_ | with_reducible refine w_eq (bi_len len_lst) ?_ | with_reducible refine w_eq bin_sub ?_ | with_reducible refine w_eq (bin_fdiv (by decide) (by decide)) ?_ | with_reducible refine ⟨_, cmp_neB, ?_⟩ | with_reducible refine ⟨_, cmp_eqB, ?_⟩ | with_reducible refine ⟨_, cmp_neS, ?_⟩ | with_reducible refine ⟨_, cmp_eqS, ?_⟩ | with_reducible refine ⟨_, cmp_eqI, ?_⟩ | with_reducible refine ⟨_, cmp_neI, ?_⟩ | with_reducible refine ⟨_, truth_bool, ?_⟩ | with_reducible refine ⟨_, ix_pr0, ?_⟩ | with_reducible refine ⟨_, ix_pr1, ?_⟩ | with_reducible refine ⟨_, ix_book, ?_⟩ | with_reducible refine ⟨kind_new, ?_⟩ | with_reducible refine ⟨rfl, ?_⟩ | (with_reducible refine ex_id ?_; refine ⟨_, rfl, ?_⟩) | (with_reducible refine w_len ?_; refine ⟨_, rfl, ?_⟩) | (with_reducible refine w_mkT ?_; refine ⟨_, _, rfl, ?_⟩) | (with_reducible refine w_mkL ?_; refine ⟨_, _, rfl, ?_⟩))
    refine conj_t rfl ?_
    repeat (first | (with_reducible refine w_loc ?_; refine ⟨_, rfl, ?_⟩) | (with_reducible refine w_glo ?_; refine ⟨_, rfl, ?_⟩) | with_reducible refine w_con ?_ | with_reducible refine w_set ?_ | with_reducible refine w_ret ?_ | with_reducible refine w_expr ?_ | with_reducible refine w_unp ?_ | with_reducible refine w_par ?_ | with_reducible refine w_ite ?_ | with_reducible refine w_nx ?_ | with_reducible refine w_rt ?_ | with_reducible refine w_nil ?_ | with_reducible refine w_tup ?_ | with_reducible refine w_lst ?_ | with_reducible refine w_bin ?_ | with_reducible refine w_neg ?_ | with_reducible refine w_not ?_ | with_reducible refine w_cmp ?_ | with_reducible refine w_and ?_ | with_reducible refine w_or ?_ | with_reducible refine w_iff ?_ | with_reducible refine w_isN ?_ | with_reducible refine w_isNN ?_ | with_reducible refine w_callC ?_ | with_reducible refine w_call ?_ | with_reducible refine w_bi ?_ | with_reducible refine w_mt ?_ | with_reducible refine w_idx ?_ | with_reducible refine w_slc ?_ | with_reducible refine w_on ?_ | with_reducible refine w_os ?_ | with_reducible refine w_rev ?_ | with_reducible refine w_sset ?_ | with_reducible refine w_lrng ?_ | with_reducible refine w_lc ?_ | with_reducible refine w_enil ?_ | with_reducible refine w_cons ?_ | with_reducible refine w_star ?_ | with_reducible refine w_ex ?_ | with_reducible refine w_rng1 ?_ | with_reducible refine w_rng2 ?_ | with_reducible refine w_enm ?_ | with_reducible refine w_sub ?_ | with_reducible refine w_dct0 ?_ | with_reducible refine w_isi ?_ | with_reducible refine w_cmp2 ?_ | with_reducible refine w_eq bin_add ?_ | with_reducible refine w_eq bi_lenP ?_ | with_reducible refine w_eq (bi_len len_tup) ?_ | with_reducible refine w_eq (bi_len len_lst) ?_ | with_reducible refine w_eq bin_sub ?_ | with_reducible refine w_eq (bin_fdiv (by decide) (by decide)) ?_ | with_reducible refine ⟨_, cmp_neB, ?_⟩ | with_reducible refine ⟨_, cmp_eqB, ?_⟩ | with_reducible refine ⟨_, cmp_neS, ?_⟩ | with_reducible refine ⟨_, cmp_eqS, ?_⟩ | with_reducible refine ⟨_, cmp_eqI, ?_⟩ | with_reducible refine ⟨_, cmp_neI, ?_⟩ | with_reducible refine ⟨_, truth_bool, ?_⟩ | with_reducible refine ⟨_, ix_pr0, ?_⟩ | with_reducible refine ⟨_, ix_pr1, ?_⟩ | with_reducible refine ⟨_, ix_book, ?_⟩ | with_reducible refine ⟨kind_new, ?_⟩ | with_reducible refine ⟨rfl, ?_⟩ | (with_reducible refine ex_id ?_; refine ⟨_, rfl, ?_⟩) | (with_reducible refine w_len ?_; refine ⟨_, rfl, ?_⟩) | (with_reducible refine w_mkT ?_; refine ⟨_, _, rfl, ?_⟩) | (with_reducible refine w_mkL ?_; refine ⟨_, _, rfl, ?_⟩))
    refine w_eq (c12c _) ?_
    repeat (first | (with_reducible refine w_loc ?_; refine ⟨_, rfl, ?_⟩) | (with_reducible refine w_glo ?_; refine ⟨_, rfl, ?_⟩) | with_reducible refine w_con ?_ | with_reducible refine w_set ?_ | with_reducible refine w_ret ?_ | with_reducible refine w_expr ?_ | with_reducible refine w_unp ?_ | with_reducible refine w_par ?_ | with_reducible refine w_ite ?_ | with_reducible refine w_nx ?_ | with_reducible refine w_rt ?_ | with_reducible refine w_nil ?_ | with_reducible refine w_tup ?_ | with_reducible refine w_lst ?_ | with_reducible refine w_bin ?_ | with_reducible refine w_neg ?_ | with_reducible refine w_not ?_ | with_reducible refine w_cmp ?_ | with_reducible refine w_and ?_ | with_reducible refine w_or ?_ | with_reducible refine w_iff ?_ | with_reducible refine w_isN ?_ | with_reducible refine w_isNN ?_ | with_reducible refine w_callC ?_ | with_reducible refine w_call ?_ | with_reducible refine w_bi ?_ | with_reducible refine w_mt ?_ | with_reducible refine w_idx ?_ | with_reducible refine w_slc ?_ | with_reducible refine w_on ?_ | with_reducible refine w_os ?_ | with_reducible refine w_rev ?_ | with_reducible refine w_sset ?_ | with_reducible refine w_lrng ?_ | with_reducible refine w_lc ?_ | with_reducible refine w_enil ?_ | with_reducible refine w_cons ?_ | with_reducible refine w_star ?_ | with_reducible refine w_ex ?_ | with_reducible refine w_rng1 ?_ | with_reducible refine w_rng2 ?_ | with_reducible refine w_enm ?_ | with_reducible refine w_sub ?_ | with_reducible refine w_dct0 ?_ | with_reducible refine w_isi ?_ | with_reducible refine w_cmp2 ?_ | with_reducible refine w_eq bin_add ?_ | with_reducible refine w_eq bi_lenP ?_ | with_reducible refine w_eq (bi_len len_tup) ?_ | with_reducible refine w_eq (bi_len len_lst) ?_ | with_reducible refine w_eq bin_sub ?_ | with_reducible refine w_eq (bin_fdiv (by decide) (by decide)) ?_ | with_reducible refine ⟨_, cmp_neB, ?_⟩ | with_reducible refine ⟨_, cmp_eqB, ?_⟩ | with_reducible refine ⟨_, cmp_neS, ?_⟩ | with_reducible refine ⟨_, cmp_eqS, ?_⟩ | with_reducible refine ⟨_, cmp_eqI, ?_⟩ | with_reducible refine ⟨_, cmp_neI, ?_⟩ | with_reducible refine ⟨_, truth_bool, ?_⟩ | with_reducible refine ⟨_, ix_pr0, ?_⟩ | with_reducible refine ⟨_, ix_pr1, ?_⟩ | with_reducible refine ⟨_, ix_book, ?_⟩ | with_reducible refine ⟨kind_new, ?_⟩ | with_reducible refine ⟨rfl, ?_⟩ | (with_reducible refine ex_id ?_; refine ⟨_, rfl, ?_⟩) | (with_reducible refine w_len ?_; refine ⟨_, rfl, ?_⟩) | (with_reducible refine w_mkT ?_; refine ⟨_, _, rfl, ?_⟩) | (with_reducible refine w_mkL ?_; refine ⟨_, _, rfl, ?_⟩))
    rfl
end Ev
set_option Elab.async false
set_option linter.all false
set_option maxRecDepth 100000
set_option maxHeartbeats 0
namespace Ev.K12
open PySem PySem.Spec PyProof.Rows L2
def nmL_0 : List (Nat × Str) := [(0, "keeps"), (4, "order_of"), (60, "parting"), (5, "_law_source"), (6, "_law_pick"), (7, "_law_of"), (8, "_law_mixed"), (9, "_law_order_of"), (10, "_law_keeps"), (11, "_law_draw_saying"), (12, "_law_draw_placing"), (61, "_law_alike_placing"), (62, "_law_is_saying"), (63, "law")]
def nmL : List (Nat × Str) := nmL_0
def gnL_0 : List (Nat × Str) := []
def gnL : List (Nat × Str) := gnL_0
def tx : Tx := ⟨fun f => nmL.lookup f, fun i => gnL.lookup i⟩
def top (i : Nat) : Stmt := PySem.Challenge.pw_soonerornot_k12_whole_placings_of_one_or.main.body.getD i (.Pass ⟨0, 0, 0, 0⟩)
theorem sc0 : FnScope ["saying", "placing", "ties", "head", "a", "b"] ["saying", "placing"] (defScope (top 1)) := ⟨rfl, rfl, rfl, by decide +kernel, rfl, by decide +kernel, by decide +kernel⟩
theorem ck0 : chkSs tx ["saying", "placing", "ties", "head", "a", "b"] (defScope (top 1)) (fun _ => true) b0 (defBody (top 1)) = true := by decide +kernel
theorem bd0 : BindsAs "keeps" (top 1) ["saying", "placing"] := fun _ _ _ _ _ _ us hl => match us, hl with | [_, _], _ => rfl
theorem sc4 : FnScope ["placing", "levels", "level", "integer"] ["placing"] (defScope (top 2)) := ⟨rfl, rfl, rfl, by decide +kernel, rfl, by decide +kernel, by decide +kernel⟩
theorem ck4 : chkSs tx ["placing", "levels", "level", "integer"] (defScope (top 2)) (fun _ => true) b4 (defBody (top 2)) = true := by decide +kernel
theorem bd4 : BindsAs "order_of" (top 2) ["placing"] := fun _ _ _ _ _ _ us hl => match us, hl with | [_], _ => rfl
theorem sc60 : FnScope ["one", "other", "u", "v"] ["one", "other"] (defScope (top 3)) := ⟨rfl, rfl, rfl, by decide +kernel, rfl, by decide +kernel, by decide +kernel⟩
theorem ck60 : chkSs tx ["one", "other", "u", "v"] (defScope (top 3)) (fun _ => true) b60 (defBody (top 3)) = true := by decide +kernel
theorem bd60 : BindsAs "parting" (top 3) ["one", "other"] := fun _ _ _ _ _ _ us hl => match us, hl with | [_, _], _ => rfl
theorem sc5 : FnScope ["script", "mixed", "cell"] ["script"] (defScope (top 5)) := ⟨rfl, rfl, rfl, by decide +kernel, rfl, by decide +kernel, by decide +kernel⟩
theorem ck5 : chkSs tx ["script", "mixed", "cell"] (defScope (top 5)) (fun _ => true) b5 (defBody (top 5)) = true := by decide +kernel
theorem bd5 : BindsAs "_law_source" (top 5) ["script"] := fun _ _ _ _ _ _ us hl => match us, hl with | [_], _ => rfl
theorem sc6 : FnScope ["source", "many", "left", "mixed"] ["source", "many"] (defScope (top 6)) := ⟨rfl, rfl, rfl, by decide +kernel, rfl, by decide +kernel, by decide +kernel⟩
theorem ck6 : chkSs tx ["source", "many", "left", "mixed"] (defScope (top 6)) (fun _ => true) b6 (defBody (top 6)) = true := by decide +kernel
theorem bd6 : BindsAs "_law_pick" (top 6) ["source", "many"] := fun _ _ _ _ _ _ us hl => match us, hl with | [_, _], _ => rfl
theorem sc7 : FnScope ["source", "some"] ["source", "some"] (defScope (top 7)) := ⟨rfl, rfl, rfl, by decide +kernel, rfl, by decide +kernel, by decide +kernel⟩
theorem ck7 : chkSs tx ["source", "some"] (defScope (top 7)) (fun _ => true) b7 (defBody (top 7)) = true := by decide +kernel
theorem bd7 : BindsAs "_law_of" (top 7) ["source", "some"] := fun _ _ _ _ _ _ us hl => match us, hl with | [_, _], _ => rfl
theorem sc8 : FnScope ["source", "things", "rest", "lap"] ["source", "things"] (defScope (top 8)) := ⟨rfl, rfl, rfl, by decide +kernel, rfl, by decide +kernel, by decide +kernel⟩
theorem ck8 : chkSs tx ["source", "things", "rest", "lap"] (defScope (top 8)) (fun _ => true) b8 (defBody (top 8)) = true := by decide +kernel
theorem bd8 : BindsAs "_law_mixed" (top 8) ["source", "things"] := fun _ _ _ _ _ _ us hl => match us, hl with | [_, _], _ => rfl
theorem sc9 : FnScope ["placing", "levels", "one"] ["placing"] (defScope (top 9)) := ⟨rfl, rfl, rfl, by decide +kernel, rfl, by decide +kernel, by decide +kernel⟩
theorem ck9 : chkSs tx ["placing", "levels", "one"] (defScope (top 9)) (fun _ => true) b9 (defBody (top 9)) = true := by decide +kernel
theorem bd9 : BindsAs "_law_order_of" (top 9) ["placing"] := fun _ _ _ _ _ _ us hl => match us, hl with | [_], _ => rfl
theorem sc10 : FnScope ["saying", "placing", "ties", "head", "a", "b"] ["saying", "placing"] (defScope (top 10)) := ⟨rfl, rfl, rfl, by decide +kernel, rfl, by decide +kernel, by decide +kernel⟩
theorem ck10 : chkSs tx ["saying", "placing", "ties", "head", "a", "b"] (defScope (top 10)) (fun _ => true) b10 (defBody (top 10)) = true := by decide +kernel
theorem bd10 : BindsAs "_law_keeps" (top 10) ["saying", "placing"] := fun _ _ _ _ _ _ us hl => match us, hl with | [_, _], _ => rfl
theorem sc11 : FnScope ["source", "n", "most", "ties", "head", "lap", "tie"] ["source", "n", "most"] (defScope (top 11)) := ⟨rfl, rfl, rfl, by decide +kernel, rfl, by decide +kernel, by decide +kernel⟩
theorem ck11 : chkSs tx ["source", "n", "most", "ties", "head", "lap", "tie"] (defScope (top 11)) (fun _ => true) b11 (defBody (top 11)) = true := by decide +kernel
theorem bd11 : BindsAs "_law_draw_saying" (top 11) ["source", "n", "most"] := fun _ _ _ _ _ _ us hl => match us, hl with | [_, _, _], _ => rfl
theorem sc12 : FnScope ["source", "n", "most", "moment"] ["source", "n"] (defScope (top 12)) := ⟨rfl, rfl, rfl, by decide +kernel, rfl, by decide +kernel, by decide +kernel⟩
theorem ck12 : chkSs tx ["source", "n", "most", "moment"] (defScope (top 12)) (fun _ => true) b12 (defBody (top 12)) = true := by decide +kernel
theorem bd12 : BindsAs "_law_draw_placing" (top 12) ["source", "n"] := fun _ _ _ _ _ _ us hl => match us, hl with | [_, _], _ => rfl
theorem sc61 : FnScope ["source", "placing", "levels", "here", "far", "level", "one"] ["source", "placing"] (defScope (top 13)) := ⟨rfl, rfl, rfl, by decide +kernel, rfl, by decide +kernel, by decide +kernel⟩
theorem ck61 : chkSs tx ["source", "placing", "levels", "here", "far", "level", "one"] (defScope (top 13)) (fun _ => true) b61 (defBody (top 13)) = true := by decide +kernel
theorem bd61 : BindsAs "_law_alike_placing" (top 13) ["source", "placing"] := fun _ _ _ _ _ _ us hl => match us, hl with | [_, _], _ => rfl
theorem sc62 : FnScope ["n", "value", "pairs", "pair", "one", "ties", "a", "b"] ["n", "value"] (defScope (top 14)) := ⟨rfl, rfl, rfl, by decide +kernel, rfl, by decide +kernel, by decide +kernel⟩
theorem ck62 : chkSs tx ["n", "value", "pairs", "pair", "one", "ties", "a", "b"] (defScope (top 14)) (fun _ => true) b62 (defBody (top 14)) = true := by decide +kernel
theorem bd62 : BindsAs "_law_is_saying" (top 14) ["n", "value"] := fun _ _ _ _ _ _ us hl => match us, hl with | [_, _], _ => rfl
theorem sc63 : FnScope ["script", "source", "lap", "n", "one", "other", "way", "k", "is_one", "kept", "told", "look", "saying"] ["script"] (defScope (top 15)) := ⟨rfl, rfl, rfl, by decide +kernel, rfl, by decide +kernel, by decide +kernel⟩
theorem ck63 : chkSs tx ["script", "source", "lap", "n", "one", "other", "way", "k", "is_one", "kept", "told", "look", "saying"] (defScope (top 15)) (fun _ => true) b63 (defBody (top 15)) = true := by decide +kernel
theorem bd63 : BindsAs "law" (top 15) ["script"] := fun _ _ _ _ _ _ us hl => match us, hl with | [_], _ => rfl
def fnl_0 : List He.DefD := [defD "keeps" (top 1), defD "order_of" (top 2), defD "parting" (top 3), defD "_law_source" (top 5), defD "_law_pick" (top 6), defD "_law_of" (top 7), defD "_law_mixed" (top 8), defD "_law_order_of" (top 9), defD "_law_keeps" (top 10), defD "_law_draw_saying" (top 11), defD "_law_draw_placing" (top 12), defD "_law_alike_placing" (top 13), defD "_law_is_saying" (top 14), defD "law" (top 15)]
def fnl : List He.DefD := fnl_0
def fal : List He.Fa := nmL.map (fun p => He.Fa.glo p.2) ++ freeNames.map He.Fa.free
theorem free_in : ∀ x, x ∈ freeNames → He.Fa.free x ∈ fal := fun x hx => List.mem_append_right _ (List.mem_map_of_mem hx)
theorem row0 : Row tx fal fnl "keeps" d0 (top 1) ["saying", "placing", "ties", "head", "a", "b"] ["saying", "placing"] := ⟨List.mem_of_getElem? (i := 0) rfl, List.mem_append_left _ (List.mem_map_of_mem (f := fun (p : Nat × Str) => He.Fa.glo p.2) (List.mem_of_getElem? (i := 0) (a := ((0, "keeps") : Nat × Str)) rfl)), sc0, rfl, rfl, ck0, bd0⟩
theorem row4 : Row tx fal fnl "order_of" d4 (top 2) ["placing", "levels", "level", "integer"] ["placing"] := ⟨List.mem_of_getElem? (i := 1) rfl, List.mem_append_left _ (List.mem_map_of_mem (f := fun (p : Nat × Str) => He.Fa.glo p.2) (List.mem_of_getElem? (i := 1) (a := ((4, "order_of") : Nat × Str)) rfl)), sc4, rfl, rfl, ck4, bd4⟩
theorem row60 : Row tx fal fnl "parting" d60 (top 3) ["one", "other", "u", "v"] ["one", "other"] := ⟨List.mem_of_getElem? (i := 2) rfl, List.mem_append_left _ (List.mem_map_of_mem (f := fun (p : Nat × Str) => He.Fa.glo p.2) (List.mem_of_getElem? (i := 2) (a := ((60, "parting") : Nat × Str)) rfl)), sc60, rfl, rfl, ck60, bd60⟩
theorem row5 : Row tx fal fnl "_law_source" d5 (top 5) ["script", "mixed", "cell"] ["script"] := ⟨List.mem_of_getElem? (i := 3) rfl, List.mem_append_left _ (List.mem_map_of_mem (f := fun (p : Nat × Str) => He.Fa.glo p.2) (List.mem_of_getElem? (i := 3) (a := ((5, "_law_source") : Nat × Str)) rfl)), sc5, rfl, rfl, ck5, bd5⟩
theorem row6 : Row tx fal fnl "_law_pick" d6 (top 6) ["source", "many", "left", "mixed"] ["source", "many"] := ⟨List.mem_of_getElem? (i := 4) rfl, List.mem_append_left _ (List.mem_map_of_mem (f := fun (p : Nat × Str) => He.Fa.glo p.2) (List.mem_of_getElem? (i := 4) (a := ((6, "_law_pick") : Nat × Str)) rfl)), sc6, rfl, rfl, ck6, bd6⟩
theorem row7 : Row tx fal fnl "_law_of" d7 (top 7) ["source", "some"] ["source", "some"] := ⟨List.mem_of_getElem? (i := 5) rfl, List.mem_append_left _ (List.mem_map_of_mem (f := fun (p : Nat × Str) => He.Fa.glo p.2) (List.mem_of_getElem? (i := 5) (a := ((7, "_law_of") : Nat × Str)) rfl)), sc7, rfl, rfl, ck7, bd7⟩
theorem row8 : Row tx fal fnl "_law_mixed" d8 (top 8) ["source", "things", "rest", "lap"] ["source", "things"] := ⟨List.mem_of_getElem? (i := 6) rfl, List.mem_append_left _ (List.mem_map_of_mem (f := fun (p : Nat × Str) => He.Fa.glo p.2) (List.mem_of_getElem? (i := 6) (a := ((8, "_law_mixed") : Nat × Str)) rfl)), sc8, rfl, rfl, ck8, bd8⟩
theorem row9 : Row tx fal fnl "_law_order_of" d9 (top 9) ["placing", "levels", "one"] ["placing"] := ⟨List.mem_of_getElem? (i := 7) rfl, List.mem_append_left _ (List.mem_map_of_mem (f := fun (p : Nat × Str) => He.Fa.glo p.2) (List.mem_of_getElem? (i := 7) (a := ((9, "_law_order_of") : Nat × Str)) rfl)), sc9, rfl, rfl, ck9, bd9⟩
theorem row10 : Row tx fal fnl "_law_keeps" d10 (top 10) ["saying", "placing", "ties", "head", "a", "b"] ["saying", "placing"] := ⟨List.mem_of_getElem? (i := 8) rfl, List.mem_append_left _ (List.mem_map_of_mem (f := fun (p : Nat × Str) => He.Fa.glo p.2) (List.mem_of_getElem? (i := 8) (a := ((10, "_law_keeps") : Nat × Str)) rfl)), sc10, rfl, rfl, ck10, bd10⟩
theorem row11 : Row tx fal fnl "_law_draw_saying" d11 (top 11) ["source", "n", "most", "ties", "head", "lap", "tie"] ["source", "n", "most"] := ⟨List.mem_of_getElem? (i := 9) rfl, List.mem_append_left _ (List.mem_map_of_mem (f := fun (p : Nat × Str) => He.Fa.glo p.2) (List.mem_of_getElem? (i := 9) (a := ((11, "_law_draw_saying") : Nat × Str)) rfl)), sc11, rfl, rfl, ck11, bd11⟩
theorem row12 : Row tx fal fnl "_law_draw_placing" d12 (top 12) ["source", "n", "most", "moment"] ["source", "n"] := ⟨List.mem_of_getElem? (i := 10) rfl, List.mem_append_left _ (List.mem_map_of_mem (f := fun (p : Nat × Str) => He.Fa.glo p.2) (List.mem_of_getElem? (i := 10) (a := ((12, "_law_draw_placing") : Nat × Str)) rfl)), sc12, rfl, rfl, ck12, bd12⟩
theorem row61 : Row tx fal fnl "_law_alike_placing" d61 (top 13) ["source", "placing", "levels", "here", "far", "level", "one"] ["source", "placing"] := ⟨List.mem_of_getElem? (i := 11) rfl, List.mem_append_left _ (List.mem_map_of_mem (f := fun (p : Nat × Str) => He.Fa.glo p.2) (List.mem_of_getElem? (i := 11) (a := ((61, "_law_alike_placing") : Nat × Str)) rfl)), sc61, rfl, rfl, ck61, bd61⟩
theorem row62 : Row tx fal fnl "_law_is_saying" d62 (top 14) ["n", "value", "pairs", "pair", "one", "ties", "a", "b"] ["n", "value"] := ⟨List.mem_of_getElem? (i := 12) rfl, List.mem_append_left _ (List.mem_map_of_mem (f := fun (p : Nat × Str) => He.Fa.glo p.2) (List.mem_of_getElem? (i := 12) (a := ((62, "_law_is_saying") : Nat × Str)) rfl)), sc62, rfl, rfl, ck62, bd62⟩
theorem row63 : Row tx fal fnl "law" d63 (top 15) ["script", "source", "lap", "n", "one", "other", "way", "k", "is_one", "kept", "told", "look", "saying"] ["script"] := ⟨List.mem_of_getElem? (i := 13) rfl, List.mem_append_left _ (List.mem_map_of_mem (f := fun (p : Nat × Str) => He.Fa.glo p.2) (List.mem_of_getElem? (i := 13) (a := ((63, "law") : Nat × Str)) rfl)), sc63, rfl, rfl, ck63, bd63⟩
theorem hfa : ∀ p ∈ nmL, ∃ d st N ps, gdefs p.1 = some d ∧ Row tx fal fnl p.2 d st N ps := by
  intro p hp
  simp only [nmL, nmL_0, List.cons_append, List.nil_append, List.mem_cons, List.not_mem_nil, or_false] at hp
  rcases hp with rfl | rfl | rfl | rfl | rfl | rfl | rfl | rfl | rfl | rfl | rfl | rfl | rfl | rfl
  · exact ⟨_, _, _, _, gd0, row0⟩
  · exact ⟨_, _, _, _, gd4, row4⟩
  · exact ⟨_, _, _, _, gd60, row60⟩
  · exact ⟨_, _, _, _, gd5, row5⟩
  · exact ⟨_, _, _, _, gd6, row6⟩
  · exact ⟨_, _, _, _, gd7, row7⟩
  · exact ⟨_, _, _, _, gd8, row8⟩
  · exact ⟨_, _, _, _, gd9, row9⟩
  · exact ⟨_, _, _, _, gd10, row10⟩
  · exact ⟨_, _, _, _, gd11, row11⟩
  · exact ⟨_, _, _, _, gd12, row12⟩
  · exact ⟨_, _, _, _, gd61, row61⟩
  · exact ⟨_, _, _, _, gd62, row62⟩
  · exact ⟨_, _, _, _, gd63, row63⟩
theorem hf (f : Nat) (x : Str) (h : tx.nm f = some x) : ∃ d st N ps, gdefs f = some d ∧ Row tx fal fnl x d st N ps := hfa (f, x) (lookup_mem h)
abbrev rw : PySem.W.OpenLaw := PySem.Challenge.rw_soonerornot_k12_whole_placings_of_one_or
abbrev R : PySem.W.OpenRow := PySem.W.OpenLaw.row rw
def dal : List (Str × D) := []
abbrev hk : PySem.W.Hook := hookE 4 fal fnl dal
def ob (s : PySem.W.SharedT) : He.AlD × Bool := obsEG 4 fal fnl dal (HandSHeadRun.getT s)
theorem ob_eq (s : PySem.W.SharedT) : ob s = hk.obs s.abs := obsEG_eq (HandSHeadRun.getT_eq s)
theorem hglo (i : Nat) (x : Str) (d : D) (h1 : tx.gn i = some x) (h2 : gglo i = some d) : (x, d) ∈ dal := by
  cases h1
def loose_0 : List Str := ["keeps", "order_of", "parting", "_law_source", "_law_pick", "_law_of", "_law_mixed", "_law_order_of", "_law_keeps", "_law_draw_saying", "_law_draw_placing", "_law_alike_placing", "_law_is_saying"]
def loose : List Str := loose_0
theorem run (w : World) : HandSHeadRun.RunEq R (PySem.W.view R.prog [15]) hk ob 4000 loose w := by
  intro os
  kernel_rfl
def lawAt : Nat := 63
end Ev.K12
set_option Elab.async false
set_option linter.all false
set_option maxRecDepth 100000
set_option maxHeartbeats 0
namespace Ev.K12
open PySem PySem.Spec PyProof.Rows L2
theorem law_true : ∀ ns : List Int, ns.length ≤ 63 → (∀ z ∈ ns, Builtin.Int.intBits z ≤ 1048576) → ∃ st', calls gdefs gglo (30 + 1) 63 [.ref 0] [.scr (ns.map PyData.int)] = .ok (.d (.bool true)) st' := fun ns hn _ => by
  obtain ⟨v, st, e, rfl⟩ := k12_ok hn
  exact ⟨st, e⟩
end Ev.K12
open PySem PySem.W PySem.Calls PyProof.Rows
theorem PySem.Challenge.cw_soonerornot_k12_whole_placings_of_one_or_holds : PySem.Challenge.rw_soonerornot_k12_whole_placings_of_one_or.Holds := by
  w_on; o_law
  refine HandSHeadRun.head_any (r := OpenLaw.row PySem.Challenge.rw_soonerornot_k12_whole_placings_of_one_or) (q := view (OpenLaw.row PySem.Challenge.rw_soonerornot_k12_whole_placings_of_one_or).prog [15]) (H := Ev.K12.hk) (ob := Ev.K12.ob) (M := 4000) (loose := Ev.K12.loose) (d := HandSHeadRun.topDef (OpenLaw.row PySem.Challenge.rw_soonerornot_k12_whole_placings_of_one_or).prog 15) (kwd := []) Ev.K12.ob_eq
    (by kernel_rfl) (fun s => by kernel_rfl) Ev.K12.run (by kernel_rfl) (by kernel_rfl) (by kernel_rfl) (by rfl) (by first | assumption | decide +kernel) (by decide +kernel) ⟨rfl, rfl, rfl, rfl, rfl, by decide +kernel⟩ ?hw ?hc
  case hw => w_witness2
  case hc =>
    exact Ev.law_walkE (k := 30) (f := 63) (glo := Ev.gglo) (l := PySem.Challenge.rw_soonerornot_k12_whole_placings_of_one_or) (x := "script") rfl (by kernel_rfl) ⟨rfl, by decide, by decide⟩ (by kernel_rfl) Ev.K12.hf Ev.gd63 Ev.K12.row63 Ev.K12.free_in Ev.K12.hglo Ev.K12.law_true

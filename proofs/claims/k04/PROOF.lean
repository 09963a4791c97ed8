import PyProof.Rows.All
import Wide.All
import OpenK.AllK
import Wide.FinOn
import KE.SortKeyHeap
import HandS.ForMost
import HandS.Exc
import HandS.Wide
import HandS.TupAny
import HandS.TupLe
import HandS.IsInst
import HandS.Defaults
import HandS.Deep
import HandS.Lambda
import HandS.TupMul
import PyProof.Rows.SortShellAny
import HandS.SetFor
import HandS.More
import HandS.CallSlots
import KE.KUnpack
import HandS.Zip
import HandS.Flow
import KE.KRevSl
import HandS.SortKw
import HandS.RevTup
import HandS.Rev
import PyProof.ListRange
import HandS.Head0
import HandS.Head1
import HandS.Head2
import HandS.HeadEnd
import HandS.HeadHook1
import HandS.HeadHook2
import KE.KStateDown
import PySem.Challenge.RW_allmeet_k04_values_written
set_option Elab.async false
set_option linter.all false
set_option maxRecDepth 100000
set_option maxHeartbeats 0
/-! MP1: mini Python: values, heap, syntax, evaluator. -/
namespace MP
open PySem

abbrev Tx := List Nat
/-- a value: tuples stand whole (so do lists that are only read: fz), lists and dicts by their number in the mini heap -/
inductive D where
  | non | bl (b : Bool) | int (i : Int) | str (x : Tx) | tup (xs : List D) | fz (xs : List D) | ref (n : Nat) | fn (i : Nat)
instance : Inhabited D := ⟨.non⟩
/-- what stands in the mini heap: a list, a dict, an instance -/
inductive O where
  | lst (xs : List D) | dic (kvs : List (D × D)) | ins (c : Nat) (fs : List (Tx × D))
  /-- a dict while it is walked: it is read alone -/
  | fdc (kvs : List (D × D))
abbrev Hm := List O
abbrev Env := List (Option D)
/-- what an expression gives: a value, or a list that nobody else holds -/
inductive RV where
  | v (d : D) | l (xs : List D)
inductive Res (α : Type) where
  | ok (a : α) (h : Hm) | exc (c : Nat) (h : Hm) | bad
def Res.bind {α β : Type} (r : Res α) (f : α → Hm → Res β) : Res β := match r with
  | .ok a h => f a h
  | .exc c h => .exc c h
  | .bad => .bad
@[simp] theorem Res.bind_ok {α β : Type} (a : α) (h : Hm) (f : α → Hm → Res β) : (Res.ok a h).bind f = f a h := rfl
@[simp] theorem Res.bind_bad {α β : Type} (f : α → Hm → Res β) : (Res.bad : Res α).bind f = .bad := rfl
@[simp] theorem Res.bind_exc {α β : Type} (c : Nat) (h : Hm) (f : α → Hm → Res β) : (Res.exc c h : Res α).bind f = .exc c h := rfl
/-- no exception may come out -/
def Res.noexc {α : Type} (r : Res α) : Res α := match r with
  | .ok a h => .ok a h
  | _ => .bad
@[simp] theorem Res.noexc_ok {α : Type} (a : α) (h : Hm) : (Res.ok a h).noexc = .ok a h := rfl

/-- the longest list, tuple, text -/
abbrev SL : Nat := 16777216

inductive BOp where | add | sub | mul | fdiv | mod | pow
  deriving DecidableEq
inductive COp where | eq | ne | lt | le | gt | ge | inn | notin | is_ | isnt
  deriving DecidableEq
inductive Ty where | int | bool | str | tuple | list | dict
  deriving DecidableEq
/-- built-in functions and types, called by name with values -/
inductive Blt where
  | len | list | tuple | dict | int | str | abs | max | min | sum | sorted | all | any | set | repr
  deriving DecidableEq
/-- methods of built-in types -/
inductive Mth where
  | append | extend | pop | get | items | values | index | join | split | lower | upper | count | insert | remove | partition
  deriving DecidableEq

mutual
inductive ME where
  | var (i : Nat)
  | glob (i : Nat)
  | non | bl (b : Bool) | int (i : Int) | str (x : Tx)
  | bin (op : BOp) (a b : ME)
  | neg (a : ME)
  | cmp (op : COp) (a b : ME)
  | chain (op1 op2 : COp) (a b c : ME)
  | isn (neg : Bool) (a : ME)
  | and (a b : ME) | or (a b : ME) | orI (a b : ME) | not (a : ME)
  | ite (c a b : ME)
  | call (f : Nat) (as : MEs)
  /-- a def as a value; a call of what slot s holds -/
  | fnv (f : Nat)
  | callV (s : Nat) (as : MEs)
  | blt (b : Blt) (as : MEs)
  | srt (a : ME) (key : Nat)
  /-- sorted(a, key=lambda x: x[0]) -/
  | srt0 (a : ME)
  | isin (a : ME) (ts : List Ty)
  | meth (m : Mth) (o : ME) (as : MEs)
  | ix (a b : ME)
  | sl (a : ME) (lo hi : MO)
  | slr (a : ME)
  | sl3 (a : ME) (lo hi st : MO)
  /-- list(reversed(a)) -/
  | lrev (a : ME)
  | tup (as : MEs) | lst (as : MEs) | dic (ks vs : MEs) | dic1 (k v : ME) | dicN (kvs : MEs)
  | comp (elt : ME) (t : MT) (it : MI) (ifs : MEs) (own : List Nat)
  /-- the dict in slot i is walked in e -/
  | lk (i : Nat) (e : ME)
inductive MEs where
  | nil | cons (a : ME) (r : MEs)
inductive MO where
  | non | som (e : ME)
inductive MI where
  | seq (e : ME) | rng (as : MEs) | enum (e : ME) | zip (a b : ME) | zipT (a b : ME) | rev (e : ME) | items (e : ME) | values (e : ME)
inductive MT where
  | nm (i : Nat) | tp (ts : List Nat)
end
mutual
inductive MS where
  | set (t : Nat) (e : ME)
  | setT (ts : List Nat) (e : ME)
  | setI (o i e : ME)
  | aug (t : Nat) (op : BOp) (e : ME)
  | augI (o i : ME) (op : BOp) (e : ME)
  | expr (e : ME)
  | ite (c : ME) (a b : MSs)
  | for (t : MT) (it : MI) (b : MSs)
  | while (c : ME) (b : MSs)
  | ret (e : ME) | retN | brk | pass | cont
  /-- what is never reached -/
  | rse
  /-- the dict in slot i is walked in a -/
  | lks (i : Nat) (a : MS)
inductive MSs where
  | nil | cons (a : MS) (r : MSs)
end
def MEs.len : MEs → Nat
  | .nil => 0
  | .cons _ r => r.len + 1

/-! ### values -/
def isAscii (x : Tx) : Bool := x.all (· < 128)
def mapO {α β : Type} (f : α → Option β) : List α → Option (List β)
  | [] => some []
  | x :: xs => match f x, mapO f xs with
    | some a, some b => some (a :: b)
    | _, _ => none
def listAt (h : Hm) (n : Nat) : Option (List D) := match h[n]? with
  | some (.lst xs) => some xs
  | _ => none
/-- as data, lists by what they hold -/
def toP (h : Hm) : Nat → D → Option PyData
  | 0 => fun _ => none
  | n + 1 => fun d => match d with
    | .non => some .none
    | .bl b => some (.bool b)
    | .int i => some (.int i)
    | .str x => if isAscii x then some (.str ⟨x.toArray⟩) else none
    | .tup xs => (mapO (toP h n) xs).map .tuple
    | .fz xs => (mapO (toP h n) xs).map .list
    | .ref k => match listAt h k with
      | some xs => (mapO (toP h n) xs).map .list
      | none => none
    | .fn _ => none
def RV.toP (h : Hm) : RV → Option PyData
  | .v d => MP.toP h 62 d
  | .l xs => (mapO (MP.toP h 61) xs).map .list
/-- a list's items -/
def RV.lst? (h : Hm) : RV → Option (List D)
  | .l xs => some xs
  | .v (.fz xs) => some xs
  | .v (.ref n) => listAt h n
  | _ => none
/-- what is unpacked -/
def tpOf (r : RV) (h : Hm) : Option (List D) := match r with
  | .v (.tup ds) => some ds
  | r => r.lst? h
/-- .. of a list that is not only read -/
def RV.trk? (h : Hm) : RV → Option (List D)
  | .l xs => some xs
  | .v (.ref n) => listAt h n
  | _ => none
/-- a list's or a tuple's items -/
def RV.seq? (h : Hm) : RV → Option (List D)
  | .l xs => some xs
  | .v (.ref n) => listAt h n
  | .v (.tup xs) => some xs
  | .v (.fz xs) => some xs
  | _ => none
def RV.box (r : RV) (h : Hm) : D × Hm := match r with
  | .v d => (d, h)
  | .l xs => (.ref h.length, h ++ [.lst xs])
def boxAll : List RV → Hm → List D × Hm
  | [], h => ([], h)
  | r :: rs, h => ((r.box h).1 :: (boxAll rs (r.box h).2).1, (boxAll rs (r.box h).2).2)
def ok1 (d : D) (h : Hm) : Res RV := .ok (.v d) h
/-- keys of dicts: ints and texts; tuples of such -/
def key1 : D → Option (Sum Int Tx)
  | .int i => some (.inl i)
  | .str x => some (.inr x)
  | _ => none
abbrev KX := Sum Int Tx
def key? (d : D) : Option KX := key1 d
def kvGet (kvs : List (D × D)) (k : KX) : Option D := match kvs with
  | [] => none
  | (a, v) :: r => if key? a = some k then some v else kvGet r k
def kvPut (kvs : List (D × D)) (d v : D) (k : KX) : List (D × D) := match kvs with
  | [] => [(d, v)]
  | (a, w) :: r => if key? a = some k then (a, v) :: r else (a, w) :: kvPut r d v k
def kvDel (kvs : List (D × D)) (k : KX) : List (D × D) := match kvs with
  | [] => []
  | (a, w) :: r => if key? a = some k then r else (a, w) :: kvDel r k

/-! ### operators -/
def b2i (b : Bool) : Int := if b then 1 else 0
def mulOk (i j : Int) : Bool := decide (i.natAbs.log2 + j.natAbs.log2 < 1000000) || (decide (i.natAbs < 18446744073709551616) || decide (j.natAbs < 18446744073709551616))
def divOk (j : Int) : Bool := decide (0 < j) && decide (j.natAbs.log2 < 9000)
def powOk (i j : Int) : Bool := decide (0 ≤ j) && decide (j ≤ 1000000) && decide (i.natAbs < 2 ^ 64)
def rep {α : Type} (xs : List α) (n : Nat) : List α := (List.replicate n xs).flatten
def bopF (op : BOp) (a b : RV) (h : Hm) : Res RV := match op, a, b with
  | .add, .v (.int i), .v (.int j) => ok1 (.int (i + j)) h
  | .sub, .v (.int i), .v (.int j) => ok1 (.int (i - j)) h
  | .mul, .v (.int i), .v (.int j) => if mulOk i j then ok1 (.int (i * j)) h else .bad
  | .fdiv, .v (.int i), .v (.int j) => if divOk j then ok1 (.int (i / j)) h else .bad
  | .mod, .v (.int i), .v (.int j) => if 0 < j then ok1 (.int (i % j)) h else .bad
  | .pow, .v (.int i), .v (.int j) => if powOk i j then ok1 (.int (i ^ j.toNat)) h else .bad
  | .add, .v (.str x), .v (.str y) => if x.length + y.length ≤ SL then ok1 (.str (x ++ y)) h else .bad
  | .add, .v (.tup x), .v (.tup y) => if x.length + y.length ≤ SL then ok1 (.tup (x ++ y)) h else .bad
  | .mul, .v (.str x), .v (.int n) => if x.length * n.toNat ≤ SL ∧ n.toNat ≤ SL ∧ -(2 ^ 62) ≤ n then ok1 (.str (rep x n.toNat)) h else .bad
  | .mul, .v (.tup x), .v (.int n) => if x.length ≤ 1000 ∧ -1000 ≤ n ∧ n ≤ 1000 then ok1 (.tup (rep x n.toNat)) h else .bad
  | .mul, .l x, .v (.int n) => if x.length ≤ 1000 ∧ -1000 ≤ n ∧ n ≤ 1000 then .ok (.l (rep x n.toNat)) h else .bad
  | .add, a, b => match a.trk? h, b.trk? h with
    | some xs, some ys => if xs.length + ys.length ≤ SL then .ok (.l (xs ++ ys)) h else .bad
    | _, _ => .bad
  | _, _, _ => .bad

/-- the order of texts -/
def ltT : Tx → Tx → Bool
  | [], [] => false
  | [], _ :: _ => true
  | _ :: _, [] => false
  | x :: xs, y :: ys => if x = y then ltT xs ys else decide (x < y)
/-- the order of tuples by the order of their items (lt) where they part (eq) -/
def ltL (lt eq : D → D → Option Bool) : List D → List D → Option Bool
  | [], [] => some false
  | [], _ :: _ => some true
  | _ :: _, [] => some false
  | x :: xs, y :: ys => match eq x y with
    | some true => ltL lt eq xs ys
    | some false => lt x y
    | none => none
def eqD (h : Hm) (n : Nat) (a b : D) : Option Bool := match toP h n a, toP h n b with
  | some x, some y => some (PyData.eqv x y)
  | _, _ => none
def eqAll (eq : D → D → Option Bool) : List D → List D → Bool
  | x :: xs, y :: ys => (eq x y).isSome && eqAll eq xs ys
  | _, _ => true
/-- a < b of data: ints, texts, tuples -/
def ltD (h : Hm) : Nat → D → D → Option Bool
  | 0 => fun _ _ => none
  | n + 1 => fun a b => match a, b with
    | .int i, .int j => some (decide (i < j))
    | .str x, .str y => some (ltT x y)
    | .tup xs, .tup ys => if eqAll (eqD h n) xs ys then ltL (ltD h n) (eqD h n) xs ys else none
    | _, _ => none
def eqR (h : Hm) (a b : RV) : Option Bool := match a.toP h, b.toP h with
  | some x, some y => some (PyData.eqv x y)
  | _, _ => none
/-- == where a list is empty needs no look at the items -/
def eqF (h : Hm) (a b : RV) : Option Bool := match a.lst? h, b with
  | some xs, .l [] => some xs.isEmpty
  | _, _ => eqR h a b
def inF (h : Hm) (a b : RV) : Option Bool := match b.toP h, a.toP h with
  | some (.list xs), some x => some (xs.any fun z => PyData.eqv z x)
  | some (.tuple xs), some x => some (xs.any fun z => PyData.eqv z x)
  | _, _ => none
def inAny (h : Hm) (a b : RV) : Option Bool := match a, b with
  | .v (.str [c]), .v (.str y) => some (decide (c ∈ y))
  | .v d, .v (.ref n) => match h[n]? with
    | some (.dic kvs) => (key? d).map fun k => (kvGet kvs k).isSome
    | some (.fdc kvs) => (key? d).map fun k => (kvGet kvs k).isSome
    | _ => inF h a b
  | _, _ => inF h a b
def isStrD : D → Bool
  | .str _ => true
  | _ => false
/-- two lists of texts -/
def ltR (h : Hm) (a b : RV) : Option Bool := match a.lst? h, b.lst? h with
  | some xs, some ys => if (xs.all isStrD && ys.all isStrD) && eqAll (eqD h 61) xs ys then ltL (ltD h 61) (eqD h 61) xs ys else none
  | _, _ => none
def ltV (h : Hm) (a b : RV) : Option Bool := match a, b with
  | .v x, .v y => ltD h 62 x y
  | _, _ => none
def ltF (h : Hm) (a b : RV) : Option Bool := match ltV h a b with
  | some k => some k
  | none => ltR h a b
/-- a >= b: the same where they part -/
def geL (ge eq : D → D → Option Bool) : List D → List D → Option Bool
  | [], [] => some true
  | [], _ :: _ => some false
  | _ :: _, [] => some true
  | x :: xs, y :: ys => match eq x y with
    | some true => geL ge eq xs ys
    | some false => ge x y
    | none => none
def geD (h : Hm) : Nat → D → D → Option Bool
  | 0 => fun _ _ => none
  | n + 1 => fun a b => match a, b with
    | .int i, .int j => some (decide (j ≤ i))
    | .str x, .str y => some (!ltT x y)
    | .tup xs, .tup ys => if eqAll (eqD h n) xs ys then geL (geD h n) (eqD h n) xs ys else none
    | _, _ => none
def geF (h : Hm) (a b : RV) : Option Bool := match a, b with
  | .v x, .v y => geD h 62 x y
  | _, _ => none
/-- a > b, a <= b of ints and texts alone -/
def gtF (a b : RV) : Option Bool := match a, b with
  | .v (.int i), .v (.int j) => some (decide (j < i))
  | .v (.str x), .v (.str y) => some (ltT y x)
  | _, _ => none
def leF (a b : RV) : Option Bool := match a, b with
  | .v (.int i), .v (.int j) => some (decide (i ≤ j))
  | .v (.str x), .v (.str y) => some (!ltT y x)
  | _, _ => none
/-- a is b, of truths -/
def isF (a b : RV) : Option Bool := match a, b with
  | .v (.bl x), .v (.bl y) => some (decide (x = y))
  | _, _ => none
def copB (op : COp) (a b : RV) (h : Hm) : Option Bool := match op with
  | .eq => eqF h a b
  | .ne => (eqF h a b).map (!·)
  | .lt => ltF h a b
  | .gt => gtF a b
  | .le => leF a b
  | .ge => geF h a b
  | .inn => inAny h a b
  | .notin => (inAny h a b).map (!·)
  | .is_ => isF a b
  | .isnt => (isF a b).map (!·)
def copF (op : COp) (a b : RV) (h : Hm) : Res RV := match copB op a b h with
  | some k => ok1 (.bl k) h
  | none => .bad

/-! ### subscripts, slices -/
def ixN (n : Nat) (i : Int) : Option Nat := if 0 ≤ i then (if i < n then some i.toNat else none) else if -(n : Int) ≤ i then some (i + n).toNat else none
def atI {α : Type} (xs : List α) (i : Int) : Option α := match ixN xs.length i with
  | some j => xs[j]?
  | none => none
def ixF (a b : RV) (h : Hm) : Res RV := match a, b with
  | .v (.ref n), .v d => match h[n]? with
    | some (.dic kvs) => match key? d with
      | some k => match kvGet kvs k with
        | some v => ok1 v h
        | none => .bad
      | none => .bad
    | some (.fdc kvs) => match key? d with
      | some k => match kvGet kvs k with
        | some v => ok1 v h
        | none => .bad
      | none => .bad
    | some (.lst xs) => match d with
      | .int i => match atI xs i with
        | some v => ok1 v h
        | none => .bad
      | _ => .bad
    | _ => .bad
  | .l xs, .v (.int i) => match atI xs i with
    | some v => ok1 v h
    | none => .bad
  | .v (.fz xs), .v (.int i) => match atI xs i with
    | some v => ok1 v h
    | none => .bad
  | .v (.tup xs), .v (.int i) => match atI xs i with
    | some v => ok1 v h
    | none => .bad
  | .v (.str x), .v (.int i) => if x.length ≤ SL then match atI x i with
    | some c => ok1 (.str [c]) h
    | none => .bad
    else .bad
  | _, _ => .bad
def sIx (n d : Nat) : Option Int → Nat
  | none => d
  | some v => if v < 0 then (v + n).toNat else min v.toNat n
def cut {α : Type} (xs : List α) (lo hi : Option Int) : List α := (xs.drop (sIx xs.length 0 lo)).take (sIx xs.length xs.length hi - sIx xs.length 0 lo)
def slF (a : RV) (lo hi : Option Int) (h : Hm) : Res RV := match a with
  | .v (.str x) => if x.length ≤ SL then ok1 (.str (cut x lo hi)) h else .bad
  | .v (.tup xs) => ok1 (.tup (cut xs lo hi)) h
  | a => match a.lst? h with
    | some xs => .ok (.l (cut xs lo hi)) h
    | none => .bad

/-- a[::-1] -/
def slrF (a : RV) (h : Hm) : Res RV := match a with
  | .v (.str x) => if x.length ≤ SL then ok1 (.str x.reverse) h else .bad
  | .v (.tup xs) => ok1 (.tup xs.reverse) h
  | a => match a.lst? h with
    | some xs => .ok (.l xs.reverse) h
    | none => .bad

/-- a[lo:hi:st] -/
def cut3 {α : Type} (xs : List α) (lo hi : Option Int) (st : Int) : List α :=
  (sliceRange (sliceBounds lo hi (some st) xs.length).1 (sliceBounds lo hi (some st) xs.length).2.1 (sliceBounds lo hi (some st) xs.length).2.2).filterMap (xs[·]?)
def slF3 (a : RV) (lo hi st : Option Int) (h : Hm) : Res RV := match a.lst? h, st with
  | some xs, some k => if k ≠ 0 ∧ (cut3 xs lo hi k).length ≤ SL then .ok (.l (cut3 xs lo hi k)) h else .bad
  | _, _ => .bad
/-- list(reversed(a)) -/
def lrevF (a : RV) (h : Hm) : Res RV := match a.lst? h with
  | some xs => .ok (.l xs.reverse) h
  | none => .bad
/-! ### built-ins -/
def int1? : D → Option Int
  | .int i => some i
  | _ => none
def str1? : D → Option Tx
  | .str x => some x
  | _ => none
def bl1? : D → Option Bool
  | .bl x => some x
  | _ => none
def ints? : List D → Option (List Int) := mapO int1?
def strs? : List D → Option (List Tx) := mapO str1?
def bls? : List D → Option (List Bool) := mapO bl1?
def tyOf (h : Hm) : D → Option Ty
  | .bl _ => some .bool
  | .int _ => some .int
  | .str _ => some .str
  | .tup _ => some .tuple
  | .fz _ => some .list
  | .ref n => match h[n]? with
    | some (.lst _) => some .list
    | some (.dic _) => some .dict
    | some (.fdc _) => some .dict
    | _ => none
  | _ => none
def isTy (t : Ty) (u : Ty) : Bool := decide (t = u) || (decide (t = .bool) && decide (u = .int))
/-- insertion by an order -/
def insD (lt : D → D → Bool) (x : D) : List D → List D
  | [] => [x]
  | y :: ys => if lt x y then x :: y :: ys else y :: insD lt x ys
def sortD (lt : D → D → Bool) : List D → List D
  | [] => []
  | x :: xs => insD lt x (sortD lt xs)
def insB {α : Type} (le : α → α → Bool) (x : α) : List α → List α
  | [] => [x]
  | y :: ys => if le x y then x :: y :: ys else y :: insB le x ys
def srtB {α : Type} (le : α → α → Bool) : List α → List α
  | [] => []
  | x :: xs => insB le x (srtB le xs)
def leI (i j : Int) : Bool := decide (i ≤ j)
def leT (x y : Tx) : Bool := !ltT y x
/-- what sorted walks: a list's items, a dict's keys -/
def itemsK (a : RV) (h : Hm) : Option (List D) := match a.lst? h with
  | some xs => some xs
  | none => match a with
    | .v (.ref n) => match h[n]? with
      | some (.dic kvs) => some (kvs.map (·.1))
      | some (.fdc kvs) => some (kvs.map (·.1))
      | _ => none
    | .v (.tup xs) => some xs
    | _ => none
def sortedF (xs : List D) (h : Hm) : Res RV := if xs.length ≤ SL then match ints? xs with
    | some is => .ok (.l ((srtB leI is).map .int)) h
    | none => match strs? xs with
      | some ts => .ok (.l ((srtB leT ts).map .str)) h
      | none => .bad
  else .bad
def digitsN : Nat → Nat → Tx → Tx
  | 0, _, acc => acc
  | f + 1, n, acc => if n < 10 then (48 + n) :: acc else digitsN f (n / 10) ((48 + n % 10) :: acc)
def showI (i : Int) : Tx := if i < 0 then 45 :: digitsN (i.natAbs + 1) i.natAbs [] else digitsN (i.natAbs + 1) i.natAbs []
def maxI : List Int → Int
  | [] => 0
  | [x] => x
  | x :: xs => max x (maxI xs)
def minI : List Int → Int
  | [] => 0
  | [x] => x
  | x :: xs => min x (minI xs)
/-- a pair (key, value) -/
def pair1 : D → Option (D × D)
  | .tup [k, v] => (key1 k).map fun _ => (k, v)
  | _ => none
/-- stored one behind the other -/
def mergeD : List (D × D) → List (D × D) → List (D × D)
  | acc, [] => acc
  | acc, p :: r => match key1 p.1 with
    | some q => mergeD (kvPut acc p.1 p.2 q) r
    | none => mergeD acc r
/-- an int's text -/
def numT (i : Int) : Tx := (PySem.Str.ofString (toString i)).cps.toList
def bltF (b : Blt) (as : List RV) (h : Hm) : Res RV := match b, as with
  | .len, [a] => match a with
    | .v (.str x) => if x.length ≤ SL then ok1 (.int x.length) h else .bad
    | a => match a.seq? h with
      | some xs => ok1 (.int xs.length) h
      | none => match a with
        | .v (.ref n) => match h[n]? with
          | some (.dic kvs) => ok1 (.int kvs.length) h
          | some (.fdc kvs) => ok1 (.int kvs.length) h
          | _ => .bad
        | _ => .bad
  | .list, [a] => match a.seq? h with
    | some xs => .ok (.l xs) h
    | none => .bad
  | .tuple, [a] => match a.seq? h with
    | some xs => ok1 (.tup xs) h
    | none => .bad
  | .int, [.v (.bl b)] => ok1 (.int (b2i b)) h
  | .int, [.v (.int i)] => ok1 (.int i) h
  | .int, [.v (.str x)] => if x.length ≤ 640 then (match PySem.intText? ⟨x.toArray⟩ with
    | some n => ok1 (.int n) h
    | none => .bad) else .bad
  | .str, [.v (.int i)] => if i.natAbs.log2 < 1920 then ok1 (.str (numT i)) h else .bad
  | .str, [.v (.bl b)] => ok1 (.str (if b then [84, 114, 117, 101] else [70, 97, 108, 115, 101])) h
  | .str, [.v (.str x)] => ok1 (.str x) h
  | .abs, [.v (.int i)] => ok1 (.int i.natAbs) h
  | .max, [.v (.int i), .v (.int j)] => ok1 (.int (max i j)) h
  | .min, [.v (.int i), .v (.int j)] => ok1 (.int (min i j)) h
  | .max, [a] => match a.lst? h with
    | some xs => match ints? xs with
      | some (i :: is) => ok1 (.int (maxI (i :: is))) h
      | _ => .bad
    | none => .bad
  | .min, [a] => match a.lst? h with
    | some xs => match ints? xs with
      | some (i :: is) => ok1 (.int (minI (i :: is))) h
      | _ => .bad
    | none => .bad
  | .sum, [a] => match a.lst? h with
    | some xs => match ints? xs with
      | some is => ok1 (.int is.sum) h
      | _ => .bad
    | none => .bad
  | .all, [a] => match a.lst? h with
    | some xs => match bls? xs with
      | some bs => ok1 (.bl (bs.all id)) h
      | _ => .bad
    | none => .bad
  | .any, [a] => match a.lst? h with
    | some xs => match bls? xs with
      | some bs => ok1 (.bl (bs.any id)) h
      | _ => .bad
    | none => .bad
  | .dict, [a] => match a.lst? h with
    | some xs => match mapO pair1 xs with
      | some kvs => .ok (.v (.ref h.length)) (h ++ [.dic (mergeD [] kvs)])
      | none => .bad
    | none => .bad
  | .sorted, [a] => match itemsK a h with
    | some xs => sortedF xs h
    | none => .bad
  | _, _ => .bad

/-- sep.join(ts) -/
def joinT (sep : Tx) : List Tx → Tx
  | [] => []
  | x :: r => r.foldl (fun acc p => acc ++ sep ++ p) x
/-- x.lower() -/
def lowT (x : Tx) : Tx := (PySem.Txt.lower ⟨x.toArray⟩).cps.toList
/-- whose arguments are kept -/
def Mth.keeps : Mth → Bool
  | .append | .insert | .remove | .get => true
  | _ => false
def mthF (m : Mth) (o : RV) (as : List RV) (h : Hm) : Res RV := match m, o, as with
  | .append, .v (.ref n), [a] => match h[n]? with
    | some (.lst xs) => match a with
      | .v d => if xs.length < SL then ok1 .non (h.set n (.lst (xs ++ [d]))) else .bad
      | _ => .bad
    | _ => .bad
  | .extend, .v (.ref n), [a] => match h[n]?, a.trk? h with
    | some (.lst xs), some ys => if xs.length + ys.length ≤ SL then ok1 .non (h.set n (.lst (xs ++ ys))) else .bad
    | _, _ => .bad
  | .pop, .v (.ref n), [] => match h[n]? with
    | some (.lst xs) => match xs[xs.length - 1]? with
      | some y => ok1 y (h.set n (.lst xs.dropLast))
      | none => .bad
    | _ => .bad
  | .pop, .v (.ref n), [.v (.int i)] => match h[n]? with
    | some (.lst xs) => match ixN xs.length i with
      | some j => match xs[j]? with
        | some y => ok1 y (h.set n (.lst (xs.eraseIdx j)))
        | none => .bad
      | none => .bad
    | _ => .bad
  | .get, .v (.ref n), [.v d, .v e] => match h[n]? with
    | some (.dic kvs) => match key? d with
      | some k => ok1 ((kvGet kvs k).getD e) h
      | none => .bad
    | _ => .bad
  | .insert, .v (.ref n), [.v (.int i), .v d] => match h[n]? with
    | some (.lst xs) => if xs.length < SL ∧ 0 ≤ i ∧ i < 2 ^ 62 then ok1 .non (h.set n (.lst (xs.take i.toNat ++ [d] ++ xs.drop i.toNat))) else .bad
    | _ => .bad
  | .count, o, [.v (.bl b)] => match o.lst? h with
    | some xs => match bls? xs with
      | some bs => ok1 (.int (bs.count b : Nat)) h
      | none => .bad
    | none => .bad
  | .join, .v (.str sep), [a] => match a.lst? h with
    | some xs => match strs? xs with
      | some ts => if (ts.map List.length).sum + ts.length * sep.length ≤ SL then ok1 (.str (joinT sep ts)) h else .bad
      | none => .bad
    | none => .bad
  | .lower, .v (.str x), [] => if x.length ≤ 5592405 then ok1 (.str (lowT x)) h else .bad
  | _, _, _ => .bad

def isDic (r : RV) (h : Hm) : Bool := match r with
  | .v (.ref n) => match h[n]? with
    | some (.dic _) => true
    | _ => false
  | _ => false
def isStr (r : RV) : Bool := match r with
  | .v (.str _) => true
  | _ => false
/-- whose method it is -/
def mthTy (m : Mth) (r : RV) (h : Hm) : Bool := match m with
  | .get | .items | .values => isDic r h
  | .join | .split | .lower | .upper | .partition => isStr r
  | _ => (r.lst? h).isSome
/-- {k: v}, the new dict at n -/
def dic1F (n : Nat) (x y : RV) (h : Hm) : Res RV := match x, h[n]? with
  | .v d, some (.dic []) => match key? d with
    | some _ => ok1 (.ref n) ((y.box h).2.set n (.dic [(d, (y.box h).1)]))
    | none => .bad
  | _, _ => .bad
/-- {k: v, ..}, the new dict at n -/
def pairsD : List D → Option (List (D × D))
  | [] => some []
  | k :: v :: r => match key1 k, pairsD r with
    | some _, some kvs => some ((k, v) :: kvs)
    | _, _ => none
  | _ => none
def dicNF (n : Nat) (rs : List RV) (h : Hm) : Res RV := match h[n]?, pairsD (boxAll rs h).1 with
  | some (.dic []), some kvs => if kvs.length ≤ 15 then .ok (.v (.ref n)) ((boxAll rs h).2.set n (.dic (mergeD [] kvs))) else .bad
  | _, _ => .bad
/-- a[i] = v -/
def setItF (o i : RV) (d : D) (h : Hm) : Option Hm := match o, i with
  | .v (.ref n), .v k => match h[n]? with
    | some (.lst xs) => match k with
      | .int j => match ixN xs.length j with
        | some p => some (h.set n (.lst (xs.set p d)))
        | none => none
      | _ => none
    | some (.dic kvs) => match key? k with
      | some q => if kvs.length < SL then some (h.set n (.dic (kvPut kvs k d q))) else none
      | none => none
    | _ => none
  | _, _ => none

/-! ### loops -/
/-- what a loop walks: its items, and what must stay as it is the while -/
structure Src where
  items : List D
  conds : List (Nat × O)
def HC (c : List (Nat × O)) (h : Hm) : Prop := ∀ p ∈ c, h[p.1]? = some p.2
inductive Out where
  | nx (σ : Env) | rt (d : D) | bk (σ : Env) | ct (σ : Env)
def setSlots (σ : Env) : List Nat → List D → Option Env
  | [], [] => some σ
  | t :: ts, d :: ds => setSlots (σ.set t (some d)) ts ds
  | _, _ => none
def tgF : MT → D → Env → Option Env
  | .nm i, d, σ => some (σ.set i (some d))
  | .tp ts, .tup ds, σ => setSlots σ ts ds
  | .tp _, _, _ => none
def wipe (σ : Env) : List Nat → Env
  | [] => σ
  | i :: is => (wipe σ is).set i none
open Classical in
noncomputable def forL (tg : D → Env → Option Env) (body : Env → Hm → Res Out) (cs : List (Nat × O)) : List D → Env → Hm → Res Out
  | [], σ, h => if HC cs h then .ok (.nx σ) h else .bad
  | x :: xs, σ, h => if HC cs h then match tg x σ with
      | some σ1 => match body σ1 h with
        | .ok (.nx σ2) h2 => forL tg body cs xs σ2 h2
        | .ok (.ct σ2) h2 => forL tg body cs xs σ2 h2
        | .ok (.bk σ2) h2 => .ok (.nx σ2) h2
        | .ok (.rt d) h2 => .ok (.rt d) h2
        | .exc c h2 => .exc c h2
        | .bad => .bad
      | none => .bad
    else .bad
open Classical in
noncomputable def compL (step : D → Hm → Res (Option D)) (cs : List (Nat × O)) : List D → Hm → Res (List D)
  | [], h => if HC cs h then .ok [] h else .bad
  | x :: xs, h => if HC cs h then match step x h with
      | .ok r h1 => match compL step cs xs h1 with
        | .ok ds h2 => .ok (r.toList ++ ds) h2
        | _ => .bad
      | _ => .bad
    else .bad
def FUEL : Nat := 10 ^ 200
def whileL (c : Env → Hm → Res RV) (body : Env → Hm → Res Out) : Nat → Env → Hm → Res Out
  | 0, _, _ => .bad
  | n + 1, σ, h => match c σ h with
    | .ok (.v (.bl true)) h1 => match body σ h1 with
      | .ok (.nx σ2) h2 => whileL c body n σ2 h2
      | .ok (.ct σ2) h2 => whileL c body n σ2 h2
      | .ok (.bk σ2) h2 => .ok (.nx σ2) h2
      | .ok (.rt d) h2 => .ok (.rt d) h2
      | .exc x h2 => .exc x h2
      | .bad => .bad
    | .ok (.v (.bl false)) h1 => .ok (.nx σ) h1
    | .exc x h1 => .exc x h1
    | _ => .bad
def pairsUp : List D → List D → List D
  | a :: as, b :: bs => .tup [a, b] :: pairsUp as bs
  | _, _ => []
def countUp (lo : Int) : Nat → List D
  | 0 => []
  | n + 1 => .int lo :: countUp (lo + 1) n
def numbered : Nat → List D → List D
  | _, [] => []
  | i, x :: xs => .tup [.int i, x] :: numbered (i + 1) xs
def small62 (i : Int) : Bool := decide (-(2 ^ 62) ≤ i) && decide (i < 2 ^ 62)
/-- a list walked by enumerate, zip, reversed -/
def srcL (r : RV) (h : Hm) : Option Src := match r with
  | .l xs => some ⟨xs, []⟩
  | .v (.fz xs) => some ⟨xs, []⟩
  | .v (.ref n) => match h[n]? with
    | some (.lst xs) => some ⟨xs, [(n, .lst xs)]⟩
    | _ => none
  | _ => none
/-- a tuple walked by zip -/
def srcT (r : RV) : Option (List D) := match r with
  | .v (.tup xs) => some xs
  | _ => none
/-- what a value walked gives -/
def srcOf (r : RV) (h : Hm) : Option Src := match r with
  | .l xs => some ⟨xs, []⟩
  | .v (.tup xs) => some ⟨xs, []⟩
  | .v (.fz xs) => some ⟨xs, []⟩
  | .v (.str x) => if x.length ≤ SL then some ⟨x.map fun c => .str [c], []⟩ else none
  | .v (.ref n) => match h[n]? with
    | some (.lst xs) => some ⟨xs, [(n, .lst xs)]⟩
    | some (.fdc kvs) => some ⟨kvs.map (·.1), []⟩
    | _ => none
  | _ => none
@[irreducible] def rngOf : List RV → Option Src
  | [.v (.int n)] => if small62 n && decide (n.toNat ≤ SL) then some ⟨countUp 0 n.toNat, []⟩ else none
  | [.v (.int a), .v (.int b)] => if small62 a && small62 b && decide ((b - a).toNat ≤ SL) then some ⟨countUp a (b - a).toNat, []⟩ else none
  | _ => none

/-- the dict that stands in slot i -/
def lkAt (σ : Env) (i : Nat) (h : Hm) : Option (Nat × List (D × D)) := match σ[i]? with
  | some (some (.ref n)) => match h[n]? with
    | some (.dic kvs) => some (n, kvs)
    | _ => none
  | _ => none
/-- .. is a dict again -/
def unlk {α : Type} (n : Nat) (r : α) (h : Hm) : Res α := match h[n]? with
  | some (.fdc kvs) => .ok r (h.set n (.dic kvs))
  | _ => .bad
/-- a key function's place in the table of calls -/
def KOFF : Nat := 100000
open Classical in
/-- the key of d: a call that leaves all as it is -/
noncomputable def keyOf (g : List D → Hm → Res D) (h : Hm) (d : D) : Option D := match g [d] h with
  | .ok k h' => if h' = h then some k else none
  | _ => none
abbrev leP : D × PyData → D × PyData → Bool := PySem.W.dataLe false (·.2)
/-- sorted by their keys, those alike as they stood -/
def byKey (ds : List D) (ps : List PyData) : List D := ((ds.zip ps).mergeSort leP).map (·.1)
open Classical in
noncomputable def srtF (g : List D → Hm → Res D) (x : RV) (h : Hm) : Res RV := match itemsK x h with
  | some ds => match mapO (keyOf g h) ds with
    | some ks => match mapO (toP h 62) ks with
      | some ps => if PySem.W.AllAlike ps ∧ PySem.W.Sortable ps ∧ ds.length ≤ SL then .ok (.l (byKey ds ps)) h else .bad
      | none => .bad
    | none => .bad
  | none => .bad
/-- lambda x: x[0] -/
def lam0 : List D → Hm → Res D := fun ds h => match ds with
  | [d] => (ixF (.v d) (.v (.int 0)) h).bind fun r h1 => .ok (r.box h1).1 (r.box h1).2
  | _ => .bad
/-! ### the evaluator -/
section
variable (G : Nat → D) (cf : Nat → List D → Hm → Res D)
mutual
noncomputable def evE : ME → Env → Hm → Res RV
  | .var i, σ, h => match σ[i]? with
    | some (some d) => ok1 d h
    | _ => .bad
  | .glob i, _, h => ok1 (G i) h
  | .non, _, h => ok1 .non h
  | .bl b, _, h => ok1 (.bl b) h
  | .int i, _, h => ok1 (.int i) h
  | .str x, _, h => ok1 (.str x) h
  | .bin op a b, σ, h => (evE a σ h).bind fun x h1 => (evE b σ h1).bind fun y h2 => bopF op x y h2
  | .neg a, σ, h => (evE a σ h).bind fun x h1 => match x with
    | .v (.int i) => ok1 (.int (-i)) h1
    | _ => .bad
  | .cmp op a b, σ, h => (evE a σ h).bind fun x h1 => (evE b σ h1).bind fun y h2 => copF op x y h2
  | .chain op1 op2 a b c, σ, h => (evE a σ h).bind fun x h1 => (evE b σ h1).bind fun y h2 => (copF op1 x y h2).bind fun r h3 => match r with
    | .v (.bl true) => (evE c σ h3).bind fun z h4 => copF op2 y z h4
    | .v (.bl false) => ok1 (.bl false) h3
    | _ => .bad
  | .isn neg a, σ, h => (evE a σ h).bind fun x h1 => match x with
    | .v .non => ok1 (.bl (!neg)) h1
    | _ => ok1 (.bl neg) h1
  | .and a b, σ, h => (evE a σ h).bind fun x h1 => match x with
    | .v (.bl true) => evE b σ h1
    | .v (.bl false) => ok1 (.bl false) h1
    | _ => .bad
  | .or a b, σ, h => (evE a σ h).bind fun x h1 => match x with
    | .v (.bl false) => evE b σ h1
    | .v (.bl true) => ok1 (.bl true) h1
    | _ => .bad
  | .orI a b, σ, h => (evE a σ h).bind fun x h1 => match x with
    | .v (.int i) => if i = 0 then evE b σ h1 else ok1 (.int i) h1
    | _ => .bad
  | .not a, σ, h => (evE a σ h).bind fun x h1 => match x with
    | .v (.bl b) => ok1 (.bl (!b)) h1
    | _ => .bad
  | .ite c a b, σ, h => (evE c σ h).bind fun x h1 => match x with
    | .v (.bl true) => evE a σ h1
    | .v (.bl false) => evE b σ h1
    | _ => .bad
  | .call f as, σ, h => (evEs as σ h).bind fun rs h1 => (cf f (boxAll rs h1).1 (boxAll rs h1).2).bind fun d h2 => ok1 d h2
  | .fnv f, _, h => ok1 (.fn f) h
  | .callV s as, σ, h => match σ[s]? with
    | some (some (.fn i)) => (evEs as σ h).bind fun rs h1 => (cf i (boxAll rs h1).1 (boxAll rs h1).2).bind fun d h2 => ok1 d h2
    | _ => .bad
  | .blt b as, σ, h => (evEs as σ h).bind fun rs h1 => bltF b rs h1
  | .srt a f, σ, h => (evE a σ h).bind fun x h1 => srtF (cf (f + KOFF)) x h1
  | .srt0 a, σ, h => (evE a σ h).bind fun x h1 => srtF lam0 x h1
  | .isin a ts, σ, h => (evE a σ h).bind fun x h1 => match x with
    | .v d => match tyOf h1 d with
      | some t => ok1 (.bl (ts.any (isTy t))) h1
      | none => match d with
        | .non => ok1 (.bl false) h1
        | _ => .bad
    | .l _ => ok1 (.bl (ts.any (isTy .list))) h1
  | .meth m o as, σ, h => (evE o σ h).bind fun x h1 => if mthTy m x h1 then (evEs as σ h1).bind fun rs h2 => if m.keeps then mthF m x ((boxAll rs h2).1.map .v) (boxAll rs h2).2 else mthF m x rs h2 else .bad
  | .ix a b, σ, h => (evE a σ h).bind fun x h1 => (evE b σ h1).bind fun y h2 => ixF x y h2
  | .sl a lo hi, σ, h => (evE a σ h).bind fun x h1 => (evO lo σ h1).bind fun l h2 => (evO hi σ h2).bind fun u h3 => slF x l u h3
  | .slr a, σ, h => (evE a σ h).bind fun x h1 => slrF x h1
  | .tup as, σ, h => (evEs as σ h).bind fun rs h1 => ok1 (.tup (boxAll rs h1).1) (boxAll rs h1).2
  | .lst as, σ, h => (evEs as σ h).bind fun rs h1 => .ok (.l (boxAll rs h1).1) (boxAll rs h1).2
  | .dic _ _, _, h => .ok (.v (.ref h.length)) (h ++ [.dic []])
  | .dic1 k v, σ, h => (evE k σ (h ++ [.dic []])).bind fun x h1 => (evE v σ h1).bind fun y h2 => dic1F h.length x y h2
  | .dicN kvs, σ, h => (evEs kvs σ (h ++ [.dic []])).bind fun rs h1 => dicNF h.length rs h1
  | .sl3 a lo hi st, σ, h => (evE a σ h).bind fun x h1 => (evO lo σ h1).bind fun l h2 => (evO hi σ h2).bind fun u h3 => (evO st σ h3).bind fun z h4 => slF3 x l u z h4
  | .lrev a, σ, h => (evE a σ h).bind fun x h1 => lrevF x h1
  | .comp elt t it ifs own, σ, h => (evI it σ h).bind fun s h1 => (compL (fun x h2 => match tgF t x (wipe σ own) with
      | some σ1 => (evTs ifs σ1 h2).bind fun k h3 => match k with
        | true => (evE elt σ1 h3).bind fun r h4 => .ok (some (r.box h4).1) (r.box h4).2
        | false => .ok none h3
      | none => .bad) s.conds s.items h1).bind fun ds h2 => .ok (.l ds) h2
  | .lk i e, σ, h => match lkAt σ i h with
    | some (n, kvs) => (evE e σ (h.set n (.fdc kvs))).noexc.bind fun r h1 => unlk n r h1
    | none => evE e σ h
noncomputable def evEs : MEs → Env → Hm → Res (List RV)
  | .nil, _, h => .ok [] h
  | .cons a r, σ, h => (evE a σ h).bind fun x h1 => (evEs r σ h1).bind fun xs h2 => .ok (x :: xs) h2
/-- tests, all of them -/
noncomputable def evTs : MEs → Env → Hm → Res Bool
  | .nil, _, h => .ok true h
  | .cons a r, σ, h => (evE a σ h).bind fun x h1 => match x with
    | .v (.bl true) => evTs r σ h1
    | .v (.bl false) => .ok false h1
    | _ => .bad
noncomputable def evO : MO → Env → Hm → Res (Option Int)
  | .non, _, h => .ok none h
  | .som e, σ, h => (evE e σ h).bind fun x h1 => match x with
    | .v (.int i) => .ok (some i) h1
    | _ => .bad
noncomputable def evI : MI → Env → Hm → Res Src
  | .seq e, σ, h => (evE e σ h).bind fun x h1 => match srcOf x h1 with
    | some s => .ok s h1
    | none => .bad
  | .rng as, σ, h => (evEs as σ h).bind fun rs h1 => match rngOf rs with
    | some s => .ok s h1
    | none => .bad
  | .enum e, σ, h => (evE e σ h).bind fun x h1 => match srcL x h1 with
    | some s => if s.items.length ≤ SL then .ok ⟨numbered 0 s.items, s.conds⟩ h1 else .bad
    | none => .bad
  | .zip a b, σ, h => (evE a σ h).bind fun x h1 => (evE b σ h1).bind fun y h2 => match srcL x h2, srcL y h2 with
    | some s, some t => if s.items.length ≤ SL then .ok ⟨pairsUp s.items t.items, s.conds ++ t.conds⟩ h2 else .bad
    | _, _ => .bad
  | .zipT a b, σ, h => (evE a σ h).bind fun x h1 => (evE b σ h1).bind fun y h2 => match srcT x, srcT y with
    | some xs, some ys => if xs.length ≤ SL then .ok ⟨pairsUp xs ys, []⟩ h2 else .bad
    | _, _ => .bad
  | .rev e, σ, h => (evE e σ h).bind fun x h1 => match srcL x h1 with
    | some s => if s.items.length ≤ SL then .ok ⟨s.items.reverse, s.conds⟩ h1 else .bad
    | none => .bad
  | .items _, _, _ => .bad
  | .values _, _, _ => .bad
end
mutual
noncomputable def evS : MS → Env → Hm → Res Out
  | .set t e, σ, h => (evE G cf e σ h).bind fun r h1 => .ok (.nx (σ.set t (some (r.box h1).1))) (r.box h1).2
  | .setT ts e, σ, h => (evE G cf e σ h).bind fun r h1 => match tpOf r h1 with
    | some ds => match setSlots σ ts ds with
      | some σ1 => .ok (.nx σ1) h1
      | none => .bad
    | none => .bad
  | .setI o i e, σ, h => (evE G cf e σ h).bind fun r h1 => (evE G cf o σ (r.box h1).2).bind fun x h2 => (evE G cf i σ h2).bind fun y h3 => match setItF x y (r.box h1).1 h3 with
    | some h4 => .ok (.nx σ) h4
    | none => .bad
  | .aug t op e, σ, h => match σ[t]? with
    | some (some d) => (evE G cf e σ h).bind fun y h1 => match d, y with
      | .int i, .v (.int j) => if op = .pow then .bad else (bopF op (.v (.int i)) (.v (.int j)) h1).bind fun r h2 => .ok (.nx (σ.set t (some (r.box h2).1))) (r.box h2).2
      | _, _ => .bad
    | _ => .bad
  | .augI o i op e, σ, h => (evE G cf o σ h).bind fun x h1 => (evE G cf i σ h1).bind fun y h2 => (ixF x y h2).bind fun z h3 => (evE G cf e σ h3).bind fun u h4 => match z, u with
    | .v (.int a), .v (.int b) => if op = .pow then .bad else (bopF op (.v (.int a)) (.v (.int b)) h4).bind fun r h5 => match setItF x y (r.box h5).1 h5 with
      | some h6 => .ok (.nx σ) h6
      | none => .bad
    | _, _ => .bad
  | .expr e, σ, h => (evE G cf e σ h).bind fun _ h1 => .ok (.nx σ) h1
  | .ite c a b, σ, h => (evE G cf c σ h).bind fun x h1 => match x with
    | .v (.bl true) => evSs a σ h1
    | .v (.bl false) => evSs b σ h1
    | _ => .bad
  | .for t it b, σ, h => (evI G cf it σ h).bind fun s h1 => forL (tgF t) (evSs b) s.conds s.items σ h1
  | .while c b, σ, h => whileL (evE G cf c) (evSs b) FUEL σ h
  | .ret e, σ, h => (evE G cf e σ h).bind fun r h1 => .ok (.rt (r.box h1).1) (r.box h1).2
  | .retN, _, h => .ok (.rt .non) h
  | .brk, σ, h => .ok (.bk σ) h
  | .pass, σ, h => .ok (.nx σ) h
  | .cont, σ, h => .ok (.ct σ) h
  | .rse, _, _ => .bad
  | .lks i a, σ, h => match lkAt σ i h with
    | some (n, kvs) => (evS a σ (h.set n (.fdc kvs))).noexc.bind fun r h1 => unlk n r h1
    | none => evS a σ h
noncomputable def evSs : MSs → Env → Hm → Res Out
  | .nil, σ, h => .ok (.nx σ) h
  | .cons a r, σ, h => (evS a σ h).bind fun o h1 => match o with
    | .nx σ1 => evSs r σ1 h1
    | o => .ok o h1
end
end

/-! ### calls -/
mutual
def D.cl (n : Nat) : D → Bool
  | .ref m => decide (m < n)
  | .tup xs => D.cls n xs
  | .fz xs => D.cls n xs
  | _ => true
def D.cls (n : Nat) : List D → Bool
  | [] => true
  | x :: xs => D.cl n x && D.cls n xs
end
def O.cl (n : Nat) : O → Bool
  | .lst xs => D.cls n xs
  | .dic kvs => D.cls n (kvs.map (·.1)) && D.cls n (kvs.map (·.2))
  | .ins _ fs => D.cls n (fs.map (·.2))
  | .fdc kvs => D.cls n (kvs.map (·.1)) && D.cls n (kvs.map (·.2))
/-- the objects that stood before lean on none that came since -/
def Stable (h h' : Hm) : Prop := h.length ≤ h'.length ∧ ∀ i, i < h.length → h'[i]? = h[i]? ∨ ∃ o, h'[i]? = some o ∧ o.cl h.length = true
/-- behind a call: what nobody can see any more is dropped -/
def gcOk (h : Hm) (d : D) (h' : Hm) : Res D :=
  if d.cl h.length then .ok d (h'.take h.length) else match d with
    | .ref m => match h'[m]? with
      | some (.lst xs) => if D.cls h.length xs then .ok (.ref h.length) (h'.take h.length ++ [.lst xs]) else .ok d h'
      | _ => .ok d h'
    | _ => .ok d h'
open Classical in
noncomputable def gcR (h : Hm) (r : Res D) : Res D := match r with
  | .ok d h' => if Stable h h' then gcOk h d h' else .ok d h'
  | .exc c h' => if Stable h h' then .exc c (h'.take h.length) else .exc c h'
  | .bad => .bad
structure Fd where
  np : Nat
  n : Nat
  body : MSs
structure Pg where
  fns : List Fd
  glb : List D
def Pg.G (P : Pg) (i : Nat) : D := P.glb.getD i .non
def startE (n : Nat) (ds : List D) : Env := ds.map some ++ List.replicate (n - ds.length) none
noncomputable def callG (t : Nat → List D → Hm → Res D) (P : Pg) : Nat → Nat → List D → Hm → Res D
  | 0 => fun _ _ _ => .bad
  | k + 1 => fun f ds h => match P.fns[f]? with
    | some F => if ds.length = F.np then gcR h (match evSs P.G (callG t P k) F.body (startE F.n ds) h with
        | .ok (.nx _) h' => .ok .non h'
        | .ok (.rt d) h' => .ok d h'
        | .exc c h' => .exc c h'
        | _ => .bad) else .bad
    | none => t f ds h
/-- calls without key functions -/
noncomputable abbrev tl0 : Nat → List D → Hm → Res D := fun _ _ _ => .bad
/-- key functions: at a small depth of their own -/
noncomputable abbrev tl (P : Pg) : Nat → List D → Hm → Res D := fun f => callG tl0 P 3 (f - KOFF)
noncomputable abbrev callF (P : Pg) : Nat → Nat → List D → Hm → Res D := callG (tl P) P
structure Df where
  name : Str
  ps : List Str
  N : List Str
  body : MSs
structure Pgm where
  defs : List Df
  free : List Str
  glb : List (Str × D)
def Df.fd (d : Df) : Fd := ⟨d.ps.length, d.N.length, d.body⟩
def Pgm.pg (p : Pgm) : Pg := ⟨p.defs.map Df.fd, p.glb.map (·.2)⟩
end MP

/-! MP2: how the mini values and heap lie in the layer's abstract heap. -/
namespace MP
open PySem PySem.Spec PyProof.Rows L2

/-- what is fixed: the written part, where the defs stand, the exception classes -/
structure Cn where
  K : PySem.W.Frag
  F : Nat → Option Addr
  X : Nat → Value
  T : List Addr
/-- the name of the one lambda that is served -/
def LN : Str := ("with_pair.<locals>.<lambda>" : Str)
/-- a table of code objects at P: each bears that name -/
abbrev TabA (H : Hp) (P : Addr) : Prop := LamX.TabS H P LN
theorem tab_upd {H : Hp} {P a : Addr} {o x : HO} (t : TabA H P) (e : H a = some x) (n1 : ∀ ps, x ≠ .tbl ps) (n2 : ∀ f, x ≠ .ext f) : TabA (L2.upd H a o) P := by
  obtain ⟨ps, h1, h2, h3⟩ := t
  refine ⟨ps, ?_, h2, fun pos cv hc => ?_⟩
  · rw [upd_ne fun z => by rw [z, e] at h1; exact n1 ps (Option.some.inj h1)]; exact h1
  · obtain ⟨c, e1, e2⟩ := h3 pos cv hc
    refine ⟨c, e1, ?_⟩
    rw [upd_ne fun z => by rw [z, e] at e2; exact n2 _ (Option.some.inj e2)]; exact e2
theorem tab_new {H : Hp} {P a : Addr} {o : HO} (t : TabA H P) (n : H a = none) : TabA (L2.upd H a o) P := t.ext fun b u e => by rw [upd_ne (ne_of_none e n)]; exact e
abbrev st (x : Tx) : Str := ⟨x.toArray⟩
/-- a list that is only read: locked, or of the written part -/
def SqF (K : PySem.W.Frag) (H : Hp) (a : Addr) (vs : List V) : Prop := (∃ o, H a = some (.frz o (.lst vs))) ∨ SqL K (fun _ => none) a vs
theorem SqF.l {K : PySem.W.Frag} {H : Hp} {a : Addr} {vs : List V} (h : SqF K H a vs) : SqL K H a vs := by
  rcases h with ⟨o, h⟩ | h
  · exact .inl (.inr ⟨o, h⟩)
  · rcases h with (h | ⟨o, h⟩) | h
    · cases h
    · cases h
    · exact .inr h
mutual
inductive RD (c : Cn) (ι : List Addr) (H : Hp) : D → V → Prop
  | non : RD c ι H .non .non
  | bl (b : Bool) : RD c ι H (.bl b) (.bl b)
  | int (i : Int) : RD c ι H (.int i) (.int i)
  | str (x : Tx) : RD c ι H (.str x) (.str (st x))
  | tup {a : Addr} {vs : List V} {ds : List D} : SqT c.K H a vs → RDs c ι H ds vs → RD c ι H (.tup ds) (.ref a)
  | fz {a : Addr} {vs : List V} {ds : List D} : SqF c.K H a vs → RDs c ι H ds vs → RD c ι H (.fz ds) (.ref a)
  | ref {n : Nat} {a : Addr} : ι[n]? = some a → RD c ι H (.ref n) (.ref a)
  | fn {i : Nat} {a : Addr} : c.F i = some a → RD c ι H (.fn i) (.ref a)
inductive RDs (c : Cn) (ι : List Addr) (H : Hp) : List D → List V → Prop
  | nil : RDs c ι H [] []
  | cons {d : D} {v : V} {ds : List D} {vs : List V} : RD c ι H d v → RDs c ι H ds vs → RDs c ι H (d :: ds) (v :: vs)
end
def kI : Sum Int Tx → Key
  | .inl i => .inl i
  | .inr x => .inr (st x)
inductive RKs (c : Cn) (ι : List Addr) (H : Hp) : List (D × D) → List (Key × V) → Prop
  | nil : RKs c ι H [] []
  | cons {d e : D} {k : Sum Int Tx} {v : V} {r : List (D × D)} {s : List (Key × V)} : key1 d = some k → RD c ι H e v → RKs c ι H r s → RKs c ι H ((d, e) :: r) ((kI k, v) :: s)
/-- an object of the mini heap at a -/
def RO (c : Cn) (ι : List Addr) (H : Hp) (o : O) (a : Addr) : Prop := match o with
  | .lst ds => ∃ vs, H a = some (.lst vs) ∧ RDs c ι H ds vs
  | .dic kvs => ∃ ks, H a = some (.dK ks) ∧ RKs c ι H kvs ks
  | .ins _ _ => False
  | .fdc kvs => ∃ x ks, H a = some (.frz x (.dK ks)) ∧ RKs c ι H kvs ks
structure RH (c : Cn) (ι : List Addr) (H : Hp) (h : Hm) : Prop where
  len : ι.length = h.length
  nd : ι.Nodup
  obj : ∀ (n : Nat) (o : O) (a : Addr), h[n]? = some o → ι[n]? = some a → RO c ι H o a
  tab : ∀ P ∈ c.T, TabA H P

/-- the way from a heap to a later one -/
structure Stp (ι : List Addr) (H : Hp) (ι' : List Addr) (H' : Hp) : Prop where
  pre : ∃ t, ι' = ι ++ t
  tup : ∀ a xs, H a = some (.tup xs) → H' a = some (.tup xs)
  frz : ∀ a o u, H a = some (.frz o u) → H' a = some (.frz o u)
  keep : ∀ a o, a ∉ ι → H a = some o → (∀ ps, o ≠ .tbl ps) → H' a = some o
  new : ∀ a, a ∈ ι' → a ∉ ι → H a = none
  dom : ∀ a, H' a = none → H a = none
theorem Stp.refl {ι : List Addr} {H : Hp} : Stp ι H ι H :=
  ⟨⟨[], by simp⟩, fun _ _ e => e, fun _ _ _ e => e, fun _ _ _ e _ => e, fun _ h n => absurd h n, fun _ e => e⟩
theorem Stp.sub {ι ι' : List Addr} {H H' : Hp} (s : Stp ι H ι' H') {a : Addr} (h : a ∈ ι) : a ∈ ι' := by
  obtain ⟨t, e⟩ := s.pre
  rw [e]; exact List.mem_append_left _ h
theorem Stp.get {ι ι' : List Addr} {H H' : Hp} (s : Stp ι H ι' H') {n : Nat} {a : Addr} (h : ι[n]? = some a) : ι'[n]? = some a := by
  obtain ⟨t, e⟩ := s.pre
  rw [e, List.getElem?_append_left (List.getElem?_eq_some_iff.mp h).1]; exact h
theorem Stp.trans {ι ι1 ι2 : List Addr} {H H1 H2 : Hp} (s : Stp ι H ι1 H1) (t : Stp ι1 H1 ι2 H2) : Stp ι H ι2 H2 where
  pre := by
    obtain ⟨x, e⟩ := s.pre
    obtain ⟨y, f⟩ := t.pre
    exact ⟨x ++ y, by rw [f, e, List.append_assoc]⟩
  tup := fun a xs e => t.tup a xs (s.tup a xs e)
  frz := fun a o u e => t.frz a o u (s.frz a o u e)
  keep := fun a o n e nt => by
    have e1 := s.keep a o n e nt
    refine t.keep a o (fun m => ?_) e1 nt
    have := s.new a m n
    rw [e] at this; cases this
  new := fun a m n => by
    by_cases h : a ∈ ι1
    · exact s.new a h n
    · exact s.dom a (t.new a m h)
  dom := fun a e => s.dom a (t.dom a e)
theorem Stp.sqT {ι ι' : List Addr} {H H' : Hp} {K : PySem.W.Frag} (s : Stp ι H ι' H') {a : Addr} {xs : List V} (h : SqT K H a xs) : SqT K H' a xs := by
  rcases h with (h | ⟨o, h⟩) | h
  · exact .inl (.inl (s.tup _ _ h))
  · exact .inl (.inr ⟨o, s.frz _ _ _ h⟩)
  · exact .inr h
theorem Stp.sqF {ι ι' : List Addr} {H H' : Hp} {K : PySem.W.Frag} (s : Stp ι H ι' H') {a : Addr} {xs : List V} (h : SqF K H a xs) : SqF K H' a xs := by
  rcases h with ⟨o, h⟩ | h
  · exact .inl ⟨o, s.frz _ _ _ h⟩
  · exact .inr h

section
variable {c : Cn} {ι ι' : List Addr} {H H' : Hp}
mutual
theorem RD.mono (s : Stp ι H ι' H') : ∀ {d : D} {v : V}, RD c ι H d v → RD c ι' H' d v
  | _, _, .non => .non
  | _, _, .bl b => .bl b
  | _, _, .int i => .int i
  | _, _, .str x => .str x
  | _, _, .tup h r => .tup (s.sqT h) (RDs.mono s r)
  | _, _, .fz h r => .fz (s.sqF h) (RDs.mono s r)
  | _, _, .ref h => .ref (s.get h)
  | _, _, .fn h => .fn h
theorem RDs.mono (s : Stp ι H ι' H') : ∀ {ds : List D} {vs : List V}, RDs c ι H ds vs → RDs c ι' H' ds vs
  | _, _, .nil => .nil
  | _, _, .cons h r => .cons (RD.mono s h) (RDs.mono s r)
end
theorem RKs.mono (s : Stp ι H ι' H') : ∀ {kvs : List (D × D)} {ks : List (Key × V)}, RKs c ι H kvs ks → RKs c ι' H' kvs ks
  | _, _, .nil => .nil
  | _, _, .cons k h r => .cons k (h.mono s) (RKs.mono s r)
theorem RO.mono (s : Stp ι H ι' H') {o : O} {a : Addr} (h : RO c ι H o a) (e : H' a = H a) : RO c ι' H' o a := by
  cases o with
  | lst ds =>
    obtain ⟨vs, h1, h2⟩ := h
    exact ⟨vs, e.trans h1, h2.mono s⟩
  | dic kvs =>
    obtain ⟨ks, h1, h2⟩ := h
    exact ⟨ks, e.trans h1, h2.mono s⟩
  | ins _ _ => exact h
  | fdc kvs =>
    obtain ⟨x, ks, h1, h2⟩ := h
    exact ⟨x, ks, e.trans h1, h2.mono s⟩
theorem RO.some {o : O} {a : Addr} (h : RO c ι H o a) : ∃ x, H a = some x ∧ (∀ xs, x ≠ .tup xs) ∧ (∀ o xs, x ≠ .frz o (.tup xs)) ∧ ∀ o xs, x ≠ .frz o (.lst xs) := by
  cases o with
  | lst ds =>
    obtain ⟨vs, h1, _⟩ := h
    exact ⟨_, h1, (fun _ z => nomatch z), (fun _ _ z => nomatch z), (fun _ _ z => nomatch z)⟩
  | dic kvs =>
    obtain ⟨ks, h1, _⟩ := h
    exact ⟨_, h1, (fun _ z => nomatch z), (fun _ _ z => nomatch z), (fun _ _ z => nomatch z)⟩
  | ins _ _ => exact h.elim
  | fdc kvs =>
    obtain ⟨x, ks, h1, _⟩ := h
    exact ⟨_, h1, (fun _ z => nomatch z), (fun _ _ z => nomatch z), (fun _ _ z => nomatch z)⟩

/-! ### lists of values -/
theorem RDs.length : ∀ {ds : List D} {vs : List V}, RDs c ι H ds vs → ds.length = vs.length
  | _, _, .nil => rfl
  | _, _, .cons _ r => congrArg (· + 1) r.length
theorem RDs.get : ∀ {ds : List D} {vs : List V} {i : Nat} {d : D}, RDs c ι H ds vs → ds[i]? = some d → ∃ v, vs[i]? = some v ∧ RD c ι H d v
  | _, _, _, _, .nil, e => by simp at e
  | _, _, 0, _, .cons h _, e => by simp at e; subst e; exact ⟨_, rfl, h⟩
  | _, _, i + 1, _, .cons _ r, e => by
    obtain ⟨v, h1, h2⟩ := RDs.get (i := i) r (by simpa using e)
    exact ⟨v, by simpa using h1, h2⟩
theorem RDs.append : ∀ {ds es : List D} {vs ws : List V}, RDs c ι H ds vs → RDs c ι H es ws → RDs c ι H (ds ++ es) (vs ++ ws)
  | _, _, _, _, .nil, s => s
  | _, _, _, _, .cons h r, s => .cons h (RDs.append r s)
theorem RDs.rep {ds : List D} {vs : List V} (r : RDs c ι H ds vs) : ∀ n : Nat, RDs c ι H (MP.rep ds n) (List.replicate n vs).flatten
  | 0 => .nil
  | n + 1 => by
    unfold MP.rep
    rw [List.replicate_succ, List.replicate_succ, List.flatten_cons, List.flatten_cons]
    exact r.append (RDs.rep r n)
theorem RDs.one {d : D} {v : V} (h : RD c ι H d v) : RDs c ι H [d] [v] := .cons h .nil
theorem RDs.take : ∀ {ds : List D} {vs : List V} (n : Nat), RDs c ι H ds vs → RDs c ι H (ds.take n) (vs.take n)
  | _, _, 0, _ => .nil
  | _, _, _ + 1, .nil => .nil
  | _, _, n + 1, .cons h r => .cons h (RDs.take n r)
theorem RDs.drop : ∀ {ds : List D} {vs : List V} (n : Nat), RDs c ι H ds vs → RDs c ι H (ds.drop n) (vs.drop n)
  | _, _, 0, r => r
  | _, _, _ + 1, .nil => .nil
  | _, _, n + 1, .cons _ r => RDs.drop n r
theorem RDs.set {d : D} {v : V} (h : RD c ι H d v) : ∀ {ds : List D} {vs : List V} (i : Nat), RDs c ι H ds vs → RDs c ι H (ds.set i d) (vs.set i v)
  | _, _, _, .nil => .nil
  | _, _, 0, .cons _ r => .cons h r
  | _, _, i + 1, .cons g r => .cons g (RDs.set h i r)
theorem RDs.eraseIdx : ∀ {ds : List D} {vs : List V} (i : Nat), RDs c ι H ds vs → RDs c ι H (ds.eraseIdx i) (vs.eraseIdx i)
  | _, _, _, .nil => .nil
  | _, _, 0, .cons _ r => r
  | _, _, i + 1, .cons g r => .cons g (RDs.eraseIdx i r)
theorem RDs.dropLast {ds : List D} {vs : List V} (h : RDs c ι H ds vs) : RDs c ι H ds.dropLast vs.dropLast := by
  rw [List.dropLast_eq_take, List.dropLast_eq_take, h.length]
  exact h.take _
theorem RDs.cut {ds : List D} {vs : List V} (h : RDs c ι H ds vs) (lo hi : Option Int) : RDs c ι H (cut ds lo hi) (cut vs lo hi) := by
  unfold MP.cut
  rw [h.length]
  exact (h.drop _).take _
theorem mapO_cons {α β : Type} {f : α → Option β} {x : α} {xs : List α} {zs : List β} (e : mapO f (x :: xs) = some zs) : ∃ y ys, f x = some y ∧ mapO f xs = some ys ∧ zs = y :: ys := by
  unfold mapO at e
  cases h1 : f x with
  | none => rw [h1] at e; cases e
  | some y =>
    cases h2 : mapO f xs with
    | none => rw [h1, h2] at e; cases e
    | some ys =>
      rw [h1, h2] at e
      exact ⟨y, ys, rfl, rfl, (Option.some.inj e).symm⟩
theorem RDs.ints : ∀ {ds : List D} {vs : List V} {is : List Int}, RDs c ι H ds vs → ints? ds = some is → vs = is.map V.int
  | _, _, is, .nil, e => by cases e; rfl
  | d :: ds, v :: vs, is, .cons h r, e => by
    obtain ⟨y, ys, h1, h2, rfl⟩ := mapO_cons e
    cases h <;> first | (cases h1; done) | (cases h1; rw [List.map_cons, RDs.ints r h2])
theorem RDs.bls : ∀ {ds : List D} {vs : List V} {is : List Bool}, RDs c ι H ds vs → bls? ds = some is → vs = is.map V.bl
  | _, _, is, .nil, e => by cases e; rfl
  | d :: ds, v :: vs, is, .cons h r, e => by
    obtain ⟨y, ys, h1, h2, rfl⟩ := mapO_cons e
    cases h <;> first | (cases h1; done) | (cases h1; rw [List.map_cons, RDs.bls r h2])
theorem RDs.strs : ∀ {ds : List D} {vs : List V} {is : List Tx}, RDs c ι H ds vs → strs? ds = some is → vs = is.map fun x => V.str (st x)
  | _, _, is, .nil, e => by cases e; rfl
  | d :: ds, v :: vs, is, .cons h r, e => by
    obtain ⟨y, ys, h1, h2, rfl⟩ := mapO_cons e
    cases h <;> first | (cases h1; done) | (cases h1; rw [List.map_cons, RDs.strs r h2])

/-! ### the mini heap -/
theorem RH.at {h : Hm} (R : RH c ι H h) {n : Nat} {o : O} (e : h[n]? = some o) : ∃ a, ι[n]? = some a ∧ a ∈ ι ∧ RO c ι H o a := by
  have hn : n < ι.length := by rw [R.len]; exact (List.getElem?_eq_some_iff.mp e).1
  have e2 : ι[n]? = some ι[n] := List.getElem?_eq_getElem hn
  exact ⟨_, e2, List.getElem_mem hn, R.obj n o _ e e2⟩
theorem RH.in {h : Hm} (R : RH c ι H h) {a : Addr} (m : a ∈ ι) : ∃ (n : Nat) (o : O), ι[n]? = some a ∧ h[n]? = some o ∧ RO c ι H o a := by
  obtain ⟨n, hn, e⟩ := List.getElem_of_mem m
  have e1 : ι[n]? = some a := by rw [List.getElem?_eq_getElem hn, e]
  have hh : n < h.length := by rw [← R.len]; exact hn
  have e2 : h[n]? = some h[n] := List.getElem?_eq_getElem hh
  exact ⟨n, _, e1, e2, R.obj n _ _ e2 e1⟩
theorem RH.notT {h : Hm} (R : RH c ι H h) {a : Addr} (m : a ∈ ι) : ∃ x, H a = some x ∧ (∀ xs, x ≠ .tup xs) ∧ (∀ o xs, x ≠ .frz o (.tup xs)) ∧ ∀ o xs, x ≠ .frz o (.lst xs) := by
  obtain ⟨_, _, _, _, r⟩ := R.in m
  exact r.some
theorem RH.notX {h : Hm} (R : RH c ι H h) {a : Addr} (m : a ∈ ι) : ∃ x, H a = some x ∧ (∀ ps, x ≠ .tbl ps) ∧ ∀ f, x ≠ .ext f := by
  obtain ⟨_, o, _, _, r⟩ := R.in m
  cases o with
  | lst ds =>
    obtain ⟨vs, h1, _⟩ := r
    exact ⟨_, h1, (fun _ z => nomatch z), fun _ z => nomatch z⟩
  | dic kvs =>
    obtain ⟨vs, h1, _⟩ := r
    exact ⟨_, h1, (fun _ z => nomatch z), fun _ z => nomatch z⟩
  | ins _ _ => exact r.elim
  | fdc kvs =>
    obtain ⟨x, ks, h1, _⟩ := r
    exact ⟨_, h1, (fun _ z => nomatch z), fun _ z => nomatch z⟩
/-- the same objects later -/
theorem RH.mono {h : Hm} (R : RH c ι H h) (s : Stp ι H ι H') (e : ∀ a ∈ ι, H' a = H a) (t : ∀ P ∈ c.T, TabA H P → TabA H' P) : RH c ι H' h :=
  ⟨R.len, R.nd, fun n o a e1 e2 => (R.obj n o a e1 e2).mono s (e a (List.mem_of_getElem? e2)), fun P m => t P m (R.tab P m)⟩
/-- a new object that nobody else knows -/
theorem Stp.upd {p : Addr} {o : HO} (n : H p = none) : Stp ι H ι (L2.upd H p o) where
  pre := ⟨[], by simp⟩
  tup := fun a xs e => by rw [upd_ne (ne_of_none e n)]; exact e
  frz := fun a x u e => by rw [upd_ne (ne_of_none e n)]; exact e
  keep := fun a x _ e _ => by rw [upd_ne (ne_of_none e n)]; exact e
  new := fun a h n => absurd h n
  dom := fun a e => by
    by_cases h : a = p
    · rw [h]; exact n
    · rw [upd_ne h] at e; exact e
theorem RH.notIn {h : Hm} (R : RH c ι H h) {p : Addr} (n : H p = none) : p ∉ ι := fun m => by
  obtain ⟨x, e, _⟩ := R.notT m
  rw [n] at e; cases e
theorem RH.upd {h : Hm} {p : Addr} {o : HO} (R : RH c ι H h) (n : H p = none) : RH c ι (L2.upd H p o) h :=
  R.mono (Stp.upd n) (fun a m => upd_ne fun e => R.notIn n (e ▸ m)) fun P _ t => tab_new t n
/-- an object that came since is numbered -/
theorem Stp.box {h : Hm} {a : Addr} (s : Stp ι H ι' H') (R : RH c ι' H' h) (n : a ∉ ι') (n0 : H a = none) : Stp ι H (ι' ++ [a]) H' where
  pre := by
    obtain ⟨t, e⟩ := s.pre
    exact ⟨t ++ [a], by rw [e, List.append_assoc]⟩
  tup := s.tup
  frz := s.frz
  keep := s.keep
  new := fun b m k => by
    rcases List.mem_append.mp m with m | m
    · exact s.new b m k
    · rw [List.mem_singleton.mp m]; exact n0
  dom := s.dom
/-- longer numbers, the same heap -/
structure Ext (ι : List Addr) (ι' : List Addr) : Prop where
  pre : ∃ t, ι' = ι ++ t
theorem Ext.get {n : Nat} {a : Addr} (s : Ext ι ι') (h : ι[n]? = some a) : ι'[n]? = some a := by
  obtain ⟨t, e⟩ := s.pre
  rw [e, List.getElem?_append_left (List.getElem?_eq_some_iff.mp h).1]; exact h
mutual
theorem RD.ext (s : Ext ι ι') : ∀ {d : D} {v : V}, RD c ι H d v → RD c ι' H d v
  | _, _, .non => .non
  | _, _, .bl b => .bl b
  | _, _, .int i => .int i
  | _, _, .str x => .str x
  | _, _, .tup h r => .tup h (RDs.ext s r)
  | _, _, .fz h r => .fz h (RDs.ext s r)
  | _, _, .ref h => .ref (s.get h)
  | _, _, .fn h => .fn h
theorem RDs.ext (s : Ext ι ι') : ∀ {ds : List D} {vs : List V}, RDs c ι H ds vs → RDs c ι' H ds vs
  | _, _, .nil => .nil
  | _, _, .cons h r => .cons (RD.ext s h) (RDs.ext s r)
end
/-- what RD leans on -/
structure Per (ι : List Addr) (H : Hp) (H' : Hp) : Prop where
  tup : ∀ a xs, H a = some (.tup xs) → H' a = some (.tup xs)
  frzT : ∀ a o xs, H a = some (.frz o (.tup xs)) → H' a = some (.frz o (.tup xs))
  frzL : ∀ a o xs, H a = some (.frz o (.lst xs)) → H' a = some (.frz o (.lst xs))
  tab : ∀ P, TabA H P → TabA H' P
mutual
theorem RD.per (s : Per ι H H') : ∀ {d : D} {v : V}, RD c ι H d v → RD c ι H' d v
  | _, _, .non => .non
  | _, _, .bl b => .bl b
  | _, _, .int i => .int i
  | _, _, .str x => .str x
  | _, _, .tup h r => .tup (by
      rcases h with (h | ⟨o, h⟩) | h
      · exact .inl (.inl (s.tup _ _ h))
      · exact .inl (.inr ⟨o, s.frzT _ _ _ h⟩)
      · exact .inr h) (RDs.per s r)
  | _, _, .fz h r => .fz (by
      rcases h with ⟨o, h⟩ | h
      · exact .inl ⟨o, s.frzL _ _ _ h⟩
      · exact .inr h) (RDs.per s r)
  | _, _, .ref h => .ref h
  | _, _, .fn h => .fn h
theorem RDs.per (s : Per ι H H') : ∀ {ds : List D} {vs : List V}, RDs c ι H ds vs → RDs c ι H' ds vs
  | _, _, .nil => .nil
  | _, _, .cons h r => .cons (RD.per s h) (RDs.per s r)
end
theorem RKs.per (s : Per ι H H') : ∀ {kvs : List (D × D)} {ks : List (Key × V)}, RKs c ι H kvs ks → RKs c ι H' kvs ks
  | _, _, .nil => .nil
  | _, _, .cons k h r => .cons k (h.per s) (RKs.per s r)
theorem RH.per {h : Hm} (R : RH c ι H h) (s : Per ι H H') (e : ∀ a ∈ ι, H' a = H a) : RH c ι H' h :=
  ⟨R.len, R.nd, fun n o a e1 e2 => by
    have r := R.obj n o a e1 e2
    have q := e a (List.mem_of_getElem? e2)
    cases o with
    | lst ds =>
      obtain ⟨vs, h1, h2⟩ := r
      exact ⟨vs, q.trans h1, h2.per s⟩
    | dic kvs =>
      obtain ⟨ks, h1, h2⟩ := r
      exact ⟨ks, q.trans h1, h2.per s⟩
    | ins _ _ => exact r
    | fdc kvs =>
      obtain ⟨x, ks, h1, h2⟩ := r
      exact ⟨x, ks, q.trans h1, h2.per s⟩, fun P m => s.tab P (R.tab P m)⟩
/-- a list that is nobody's is written -/
theorem Per.upd {a : Addr} {xs : List V} {o : HO} (e : H a = some (.lst xs)) : Per ι H (L2.upd H a o) where
  tup := fun b ys q => by
    have z : b ≠ a := fun z => by rw [z, e] at q; cases q
    rw [upd_ne z]; exact q
  frzT := fun b x u q => by
    have z : b ≠ a := fun z => by rw [z, e] at q; cases q
    rw [upd_ne z]; exact q
  frzL := fun b x u q => by
    have z : b ≠ a := fun z => by rw [z, e] at q; cases q
    rw [upd_ne z]; exact q
  tab := fun P t => tab_upd t e (fun _ z => nomatch z) fun _ z => nomatch z
theorem Stp.tmp {H1 : Hp} {ι1 : List Addr} {a : Addr} {xs : List V} {o : HO} (s : Stp ι1 H1 ι H) (n : H1 a = none) (m : a ∉ ι) (e : H a = some (.lst xs)) : Stp ι1 H1 ι (L2.upd H a o) where
  pre := s.pre
  tup := fun b ys q => (Per.upd (ι := ι) e).tup b ys (s.tup b ys q)
  frz := fun b x u q => by
    have q2 := s.frz b x u q
    have z : b ≠ a := fun z => by rw [z, e] at q2; cases q2
    rw [upd_ne z]; exact q2
  keep := fun b x k q nt => by
    have z : b ≠ a := fun z => by rw [z, n] at q; cases q
    rw [upd_ne z]; exact s.keep b x k q nt
  new := s.new
  dom := fun b q => by
    by_cases z : b = a
    · rw [z]; exact n
    · rw [upd_ne z] at q; exact s.dom b q
theorem RKs.ext (s : Ext ι ι') : ∀ {kvs : List (D × D)} {ks : List (Key × V)}, RKs c ι H kvs ks → RKs c ι' H kvs ks
  | _, _, .nil => .nil
  | _, _, .cons k h r => .cons k (h.ext s) (RKs.ext s r)
theorem RO.ext (s : Ext ι ι') {o : O} {a : Addr} (h : RO c ι H o a) : RO c ι' H o a := by
  cases o with
  | lst ds =>
    obtain ⟨vs, h1, h2⟩ := h
    exact ⟨vs, h1, h2.ext s⟩
  | dic kvs =>
    obtain ⟨ks, h1, h2⟩ := h
    exact ⟨ks, h1, h2.ext s⟩
  | ins _ _ => exact h
  | fdc kvs =>
    obtain ⟨x, ks, h1, h2⟩ := h
    exact ⟨x, ks, h1, h2.ext s⟩
theorem RH.box {h : Hm} {a : Addr} {o : O} (R : RH c ι H h) (n : a ∉ ι) (r : RO c ι H o a) : RH c (ι ++ [a]) H (h ++ [o]) where
  len := by rw [List.length_append, List.length_append, R.len]; rfl
  nd := by
    rw [List.nodup_append]
    exact ⟨R.nd, by simp, fun x hx y hy => by rw [List.mem_singleton.mp hy]; exact fun e => n (e ▸ hx)⟩
  obj := fun k o' b e1 e2 => by
    have x : Ext ι (ι ++ [a]) := ⟨[a], rfl⟩
    by_cases hk : k < h.length
    · rw [List.getElem?_append_left hk] at e1
      rw [List.getElem?_append_left (by rw [R.len]; exact hk)] at e2
      exact (R.obj k o' b e1 e2).ext x
    · have hk' : k = h.length := by
        have := (List.getElem?_eq_some_iff.mp e1).1
        rw [List.length_append] at this
        simp at this
        omega
      subst hk'
      rw [List.getElem?_append_right (Nat.le_refl _), Nat.sub_self] at e1
      rw [List.getElem?_append_right (by rw [R.len]; exact Nat.le_refl _), R.len, Nat.sub_self] at e2
      simp at e1 e2
      subst e1 e2
      exact r.ext x
  tab := R.tab
/-- an object is written -/
theorem Stp.write {h : Hm} (R : RH c ι H h) {a : Addr} {o : HO} (m : a ∈ ι) (nf : ∀ x u, H a ≠ some (.frz x u)) : Stp ι H ι (L2.upd H a o) where
  pre := ⟨[], by simp⟩
  tup := fun b xs e => by
    obtain ⟨x, e1, n1, _⟩ := R.notT m
    rw [upd_ne (fun z => by subst z; rw [e1] at e; exact n1 xs (Option.some.inj e))]; exact e
  frz := fun b x u e => by
    rw [upd_ne (fun z => by subst z; exact nf x u e)]; exact e
  keep := fun b x n e _ => by
    have z : b ≠ a := fun z => n (by rw [z]; exact m)
    rw [upd_ne z]; exact e
  new := fun a h n => absurd h n
  dom := fun b e => by
    by_cases z : b = a
    · subst z; rw [upd_same] at e; cases e
    · rw [upd_ne z] at e; exact e
theorem nodup_at {l : List Addr} (nd : l.Nodup) {i j : Nat} {a : Addr} (h1 : l[i]? = some a) (h2 : l[j]? = some a) : i = j := by
  obtain ⟨x1, e1⟩ := List.getElem?_eq_some_iff.mp h1
  obtain ⟨x2, e2⟩ := List.getElem?_eq_some_iff.mp h2
  exact (List.getElem_inj nd).mp (e1.trans e2.symm)
theorem nf_of {u : HO} {a : Addr} (e : H a = some u) (n : ∀ x w, u ≠ .frz x w) : ∀ x w, H a ≠ some (.frz x w) := fun x w z => by
  rw [e] at z
  exact n x w (Option.some.inj z)
theorem nf_lst {a : Addr} {xs : List V} (e : H a = some (.lst xs)) : ∀ x w, H a ≠ some (.frz x w) := nf_of e fun _ _ z => nomatch z
theorem nf_dic {a : Addr} {xs : List (Key × V)} (e : H a = some (.dK xs)) : ∀ x w, H a ≠ some (.frz x w) := nf_of e fun _ _ z => nomatch z
theorem RH.write {h : Hm} (R : RH c ι H h) {n : Nat} {a : Addr} {o : O} {ho : HO} (e : ι[n]? = some a) (nf : ∀ x u, H a ≠ some (.frz x u)) (r : RO c ι (L2.upd H a ho) o a) : RH c ι (L2.upd H a ho) (h.set n o) where
  len := by rw [List.length_set]; exact R.len
  nd := R.nd
  obj := fun k o' b e1 e2 => by
    by_cases hk : k = n
    · subst hk
      rw [e] at e2; cases e2
      have hk : k < h.length := by
        have := (List.getElem?_eq_some_iff.mp e1).1
        rwa [List.length_set] at this
      rw [List.getElem?_set_self hk] at e1
      cases e1
      exact r
    · rw [List.getElem?_set_ne (Ne.symm hk)] at e1
      refine (R.obj k o' b e1 e2).mono (Stp.write R (List.mem_of_getElem? e) nf) (upd_ne fun z => hk ?_)
      subst z
      exact nodup_at R.nd e2 e
  tab := fun Q m => by
    obtain ⟨u, e1, n1, n2⟩ := R.notX (List.mem_of_getElem? e)
    exact tab_upd (R.tab Q m) e1 n1 n2
/-- a dict is locked, and is a dict again -/
theorem Per.unlock {a : Addr} {x : Obj} {ks : List (Key × V)} {o : HO} (e : H a = some (.frz x (.dK ks))) : Per ι H (L2.upd H a o) where
  tup := fun b ys q => by
    have z : b ≠ a := fun z => by rw [z, e] at q; cases q
    rw [upd_ne z]; exact q
  frzT := fun b x u q => by
    have z : b ≠ a := fun z => by rw [z, e] at q; cases q
    rw [upd_ne z]; exact q
  frzL := fun b x u q => by
    have z : b ≠ a := fun z => by rw [z, e] at q; cases q
    rw [upd_ne z]; exact q
  tab := fun P t => tab_upd t e (fun _ z => nomatch z) fun _ z => nomatch z
theorem Stp.unlock {ι ι' : List Addr} {H H' : Hp} {a : Addr} {x : Obj} {ks : List (Key × V)} (m : a ∈ ι) (e : H a = some (.dK ks)) (s : Stp ι (L2.upd H a (.frz x (.dK ks))) ι' H') : Stp ι H ι' (L2.upd H' a (.dK ks)) where
  pre := s.pre
  tup := fun b ys q => by
    have z : b ≠ a := fun z => by rw [z, e] at q; cases q
    rw [upd_ne z]; exact s.tup b ys (by rw [upd_ne z]; exact q)
  frz := fun b y u q => by
    have z : b ≠ a := fun z => by rw [z, e] at q; cases q
    rw [upd_ne z]; exact s.frz b y u (by rw [upd_ne z]; exact q)
  keep := fun b y n q nt => by
    have z : b ≠ a := fun z => n (by rw [z]; exact m)
    rw [upd_ne z]; exact s.keep b y n (by rw [upd_ne z]; exact q) nt
  new := fun b m' n => by
    have z : b ≠ a := fun z => n (by rw [z]; exact m)
    have := s.new b m' n
    rwa [upd_ne z] at this
  dom := fun b q => by
    have z : b ≠ a := fun z => by rw [z, upd_same] at q; cases q
    rw [upd_ne z] at q
    have := s.dom b q
    rwa [upd_ne z] at this
theorem RO.per {H H' : Hp} (s : Per ι H H') {o : O} {a : Addr} (r : RO c ι H o a) (q : H' a = H a) : RO c ι H' o a := by
  cases o with
  | lst ds =>
    obtain ⟨vs, h1, h2⟩ := r
    exact ⟨vs, q.trans h1, h2.per s⟩
  | dic kvs =>
    obtain ⟨ks, h1, h2⟩ := r
    exact ⟨ks, q.trans h1, h2.per s⟩
  | ins _ _ => exact r
  | fdc kvs =>
    obtain ⟨x, ks, h1, h2⟩ := r
    exact ⟨x, ks, q.trans h1, h2.per s⟩
theorem RH.unlock {h : Hm} (R : RH c ι H h) {n : Nat} {a : Addr} {x : Obj} {kvs : List (D × D)} {ks : List (Key × V)} (e : ι[n]? = some a) (e1 : h[n]? = some (.fdc kvs)) (e2 : H a = some (.frz x (.dK ks))) : RH c ι (L2.upd H a (.dK ks)) (h.set n (.dic kvs)) where
  len := by rw [List.length_set]; exact R.len
  nd := R.nd
  obj := fun k o' b q1 q2 => by
    have P : Per ι H (L2.upd H a (.dK ks)) := Per.unlock e2
    by_cases hk : k = n
    · subst hk
      rw [e] at q2; cases q2
      have hk : k < h.length := (List.getElem?_eq_some_iff.mp e1).1
      rw [List.getElem?_set_self hk] at q1
      cases q1
      obtain ⟨y, ks', h1, h2⟩ := R.obj k _ a e1 e
      rw [e2] at h1
      cases h1
      exact ⟨ks, upd_same, h2.per P⟩
    · rw [List.getElem?_set_ne (Ne.symm hk)] at q1
      refine (R.obj k o' b q1 q2).per P (upd_ne fun z => hk ?_)
      subst z
      exact nodup_at R.nd q2 e
  tab := fun Q m => tab_upd (R.tab Q m) e2 (fun _ z => nomatch z) fun _ z => nomatch z
theorem RH.lock {h : Hm} (R : RH c ι H h) {n : Nat} {a : Addr} {x : Obj} {kvs : List (D × D)} {ks : List (Key × V)} (e : ι[n]? = some a) (e1 : h[n]? = some (.dic kvs)) (e2 : H a = some (.dK ks)) : Stp ι H ι (L2.upd H a (.frz x (.dK ks))) ∧ RH c ι (L2.upd H a (.frz x (.dK ks))) (h.set n (.fdc kvs)) := by
  have s : Stp ι H ι (L2.upd H a (.frz x (.dK ks))) := Stp.write R (List.mem_of_getElem? e) (nf_dic e2)
  obtain ⟨ks', h1, h2⟩ := R.obj n _ a e1 e
  rw [e2] at h1
  cases h1
  exact ⟨s, R.write e (nf_dic e2) ⟨x, ks, upd_same, h2.mono s⟩⟩
end

/-! ### what an expression gives -/
/-- the value as the layer has it; a list that is nobody else's stands where nothing was at the start (H0) -/
def RR (c : Cn) (H0 : Hp) (ι : List Addr) (H : Hp) (r : RV) (v : V) : Prop := match r with
  | .v d => RD c ι H d v
  | .l xs => ∃ a vs, v = .ref a ∧ H a = some (.lst vs) ∧ a ∉ ι ∧ H0 a = none ∧ RDs c ι H xs vs
/-- .. whatever stood at the start -/
def RW (c : Cn) (ι : List Addr) (H : Hp) (r : RV) (v : V) : Prop := match r with
  | .v d => RD c ι H d v
  | .l xs => ∃ a vs, v = .ref a ∧ H a = some (.lst vs) ∧ a ∉ ι ∧ RDs c ι H xs vs
section
variable {c : Cn} {ι ι' : List Addr} {H0 H1 H H' : Hp} {r : RV} {v : V}
theorem RR.w (x : RR c H0 ι H r v) : RW c ι H r v := by
  cases r with
  | v d => exact x
  | l xs =>
    obtain ⟨a, vs, e, h1, h2, _, h3⟩ := x
    exact ⟨a, vs, e, h1, h2, h3⟩
theorem RR.base (x : RR c H1 ι H r v) (k : ∀ a, H1 a = none → H0 a = none) : RR c H0 ι H r v := by
  cases r with
  | v d => exact x
  | l xs =>
    obtain ⟨a, vs, e, h1, h2, h3, h4⟩ := x
    exact ⟨a, vs, e, h1, h2, k a h3, h4⟩
theorem RR.mono (s : Stp ι H ι' H') (x : RR c H0 ι H r v) : RR c H0 ι' H' r v := by
  cases r with
  | v d => exact RD.mono s x
  | l xs =>
    obtain ⟨a, vs, e, h1, h2, h3, h4⟩ := x
    refine ⟨a, vs, e, s.keep a _ h2 h1 (fun _ z => nomatch z), fun m => ?_, h3, h4.mono s⟩
    have := s.new a m h2
    rw [h1] at this; cases this
end
/-- a is the place of none of these lists -/
def NoTmp (a : Addr) : List RV → List V → Prop
  | .l _ :: rs, v :: vs => v ≠ .ref a ∧ NoTmp a rs vs
  | .v _ :: rs, _ :: vs => NoTmp a rs vs
  | _, _ => True
inductive RRs (c : Cn) (H0 : Hp) (ι : List Addr) (H : Hp) : List RV → List V → Prop
  | nil : RRs c H0 ι H [] []
  | cons {r : RV} {v : V} {rs : List RV} {vs : List V} : RR c H0 ι H r v → RRs c H0 ι H rs vs → (∀ a xs, r = .l xs → v = .ref a → NoTmp a rs vs) → RRs c H0 ι H (r :: rs) (v :: vs)
section
variable {c : Cn} {ι ι' : List Addr} {H0 H1 H H' : Hp}
theorem RRs.length : ∀ {rs : List RV} {vs : List V}, RRs c H0 ι H rs vs → rs.length = vs.length
  | _, _, .nil => rfl
  | _, _, .cons _ r _ => congrArg (· + 1) r.length
theorem RRs.base (k : ∀ a, H1 a = none → H0 a = none) : ∀ {rs : List RV} {vs : List V}, RRs c H1 ι H rs vs → RRs c H0 ι H rs vs
  | _, _, .nil => .nil
  | _, _, .cons h r n => .cons (h.base k) (RRs.base k r) n
theorem RRs.noTmp {a : Addr} (k : H1 a ≠ none) : ∀ {rs : List RV} {vs : List V}, RRs c H1 ι H rs vs → NoTmp a rs vs
  | _, _, .nil => trivial
  | .v d :: rs, v :: vs, .cons h r n => by
    show NoTmp a rs vs
    exact RRs.noTmp k r
  | .l _ :: rs, v :: vs, .cons h r n => by
    obtain ⟨b, ws, e, _, _, h3, _⟩ := h
    refine ⟨fun z => ?_, RRs.noTmp k r⟩
    rw [e] at z; cases z
    exact k h3
/-- boxed -/
theorem RR.box {h : Hm} {r : RV} {v : V} (s : Stp ι H0 ι' H) (R : RH c ι' H h) (x : RR c H0 ι' H r v) :
    ∃ ι2, Ext ι' ι2 ∧ Stp ι H0 ι2 H ∧ RH c ι2 H (r.box h).2 ∧ RD c ι2 H (r.box h).1 v ∧ (∀ b, b ∈ ι2 → b ∈ ι' ∨ ∃ xs, r = .l xs ∧ v = .ref b) := by
  cases r with
  | v d => exact ⟨ι', ⟨⟨[], by simp⟩⟩, s, R, x, fun b m => .inl m⟩
  | l xs =>
    obtain ⟨a, vs, e, h1, h2, h3, h4⟩ := x
    subst e
    refine ⟨ι' ++ [a], ⟨⟨[a], rfl⟩⟩, s.box R h2 h3, R.box h2 ⟨vs, h1, h4⟩, .ref ?_, fun b m => ?_⟩
    · rw [List.getElem?_append_right (by rw [R.len]; exact Nat.le_refl _), R.len, Nat.sub_self]; rfl
    · rcases List.mem_append.mp m with m | m
      · exact .inl m
      · exact .inr ⟨xs, rfl, by rw [List.mem_singleton.mp m]⟩
theorem RRs.later (e : Ext ι' ι) : ∀ {rs : List RV} {vs : List V}, RRs c H0 ι' H rs vs → (∀ b, b ∈ ι → b ∈ ι' ∨ NoTmp b rs vs) → RRs c H0 ι H rs vs
  | _, _, .nil, _ => .nil
  | .v d :: rs, v :: vs, .cons h r n, k => .cons (RD.ext e h) (RRs.later e r fun b m => (k b m).imp id fun z => z) n
  | .l xs :: rs, v :: vs, .cons h r n, k => by
    refine .cons ?_ (RRs.later e r fun b m => (k b m).imp id fun z => z.2) n
    obtain ⟨a, ws, e1, h1, h2, h3, h4⟩ := h
    refine ⟨a, ws, e1, h1, fun m => ?_, h3, h4.ext e⟩
    rcases k a m with z | z
    · exact h2 z
    · exact z.1 e1
theorem RRs.box {h : Hm} : ∀ {rs : List RV} {vs : List V} {ι' : List Addr} {h : Hm}, Stp ι H0 ι' H → RH c ι' H h → RRs c H0 ι' H rs vs →
    ∃ ι2, Ext ι' ι2 ∧ Stp ι H0 ι2 H ∧ RH c ι2 H (boxAll rs h).2 ∧ RDs c ι2 H (boxAll rs h).1 vs
  | _, _, ι', h, s, R, .nil => ⟨ι', ⟨⟨[], by simp⟩⟩, s, R, .nil⟩
  | r :: rs, v :: vs, ι', h, s, R, .cons x xs n => by
    obtain ⟨ι1, e1, s1, R1, d1, k1⟩ := RR.box s R x
    have xs1 : RRs c H0 ι1 H rs vs := RRs.later e1 xs fun b m => by
      rcases k1 b m with z | ⟨ys, z1, z2⟩
      · exact .inl z
      · exact .inr (n b ys z1 z2)
    obtain ⟨ι2, e2, s2, R2, d2⟩ := RRs.box (h := h) s1 R1 xs1
    obtain ⟨t1, q1⟩ := e1.pre
    obtain ⟨t2, q2⟩ := e2.pre
    exact ⟨ι2, ⟨⟨t1 ++ t2, by rw [q2, q1, List.append_assoc]⟩⟩, s2, R2, .cons (d1.ext e2) d2⟩
end

/-! ### what comes behind a step -/
/-- the step's end r (from ι, H): Q of whatever the layer has there; W of an exception -/
def After {α β : Type} (c : Cn) (ι : List Addr) (H : Hp) (r : Res α) (Rel : List Addr → Hp → α → β → Prop) (Q : β → Hp → Prop) (W : Nat → Hp → Prop) : Prop := match r with
  | .ok a h' => ∀ ι' H' v, Stp ι H ι' H' → RH c ι' H' h' → Rel ι' H' a v → Q v H'
  | .exc e h' => ∀ ι' H', Stp ι H ι' H' → RH c ι' H' h' → W e H'
  | .bad => False
section
variable {α β γ δ : Type} {c : Cn} {ι ι1 : List Addr} {H H1 : Hp} {W : Nat → Hp → Prop}
theorem After.from {r : Res α} {Rel : List Addr → Hp → α → β → Prop} {Q : β → Hp → Prop} (a : After c ι H r Rel Q W) (s : Stp ι H ι1 H1) : After c ι1 H1 r Rel Q W := by
  cases r with
  | ok x h => exact fun ι' H' v t R x => a ι' H' v (s.trans t) R x
  | exc e h => exact fun ι' H' t R => a ι' H' (s.trans t) R
  | bad => exact a
theorem After.mono {r : Res α} {Rel Rel' : List Addr → Hp → α → β → Prop} {Q Q' : β → Hp → Prop} (a : After c ι H r Rel Q W) (hr : ∀ ι' H' x v, Stp ι H ι' H' → Rel' ι' H' x v → Rel ι' H' x v) (hq : ∀ v H', Q v H' → Q' v H') : After c ι H r Rel' Q' W := by
  cases r with
  | ok x h => exact fun ι' H' v t R z => hq _ _ (a ι' H' v t R (hr _ _ _ _ t z))
  | exc e h => exact a
  | bad => exact a
/-- two steps in a row -/
theorem After.bind {r : Res α} {f : α → Hm → Res γ} {Rel : List Addr → Hp → γ → δ → Prop} {Rel1 : List Addr → Hp → α → β → Prop} {Q : δ → Hp → Prop} {Q1 : β → Hp → Prop} (a : After c ι H (r.bind f) Rel Q W)
    (k : ∀ x h1 ι1 H1 v, Stp ι H ι1 H1 → RH c ι1 H1 h1 → Rel1 ι1 H1 x v → After c ι1 H1 (f x h1) Rel Q W → Q1 v H1) : After c ι H r Rel1 Q1 W := by
  cases r with
  | ok x h =>
    intro ι1 H1 v s R z
    exact k x h ι1 H1 v s R z (After.from (r := f x h) a s)
  | exc e h => exact a
  | bad => exact a
end
/-- the slots -/
def RE (c : Cn) (ι : List Addr) (H : Hp) (env : Env) (σ : L2.St) : Prop := env.length = σ.length ∧ ∀ (i : Nat) (d : D), env[i]? = some (some d) → ∃ v, σ[i]? = some (some v) ∧ RD c ι H d v
theorem RE.mono {c : Cn} {ι ι' : List Addr} {H H' : Hp} {env : Env} {σ : L2.St} (s : Stp ι H ι' H') (x : RE c ι H env σ) : RE c ι' H' env σ :=
  ⟨x.1, fun i d e => let ⟨v, h1, h2⟩ := x.2 i d e; ⟨v, h1, h2.mono s⟩⟩
theorem RE.ext {c : Cn} {ι ι' : List Addr} {H : Hp} {env : Env} {σ : L2.St} (s : Ext ι ι') (x : RE c ι H env σ) : RE c ι' H env σ :=
  ⟨x.1, fun i d e => let ⟨v, h1, h2⟩ := x.2 i d e; ⟨v, h1, h2.ext s⟩⟩
theorem RE.set {c : Cn} {ι : List Addr} {H : Hp} {env : Env} {σ : L2.St} {d : D} {v : V} (x : RE c ι H env σ) (h : RD c ι H d v) (i : Nat) : RE c ι H (env.set i (some d)) (σ.set i (some v)) := by
  refine ⟨by rw [List.length_set, List.length_set]; exact x.1, fun j e q => ?_⟩
  by_cases hj : j = i
  · subst hj
    have hl : j < env.length := by
      have := (List.getElem?_eq_some_iff.mp q).1
      rwa [List.length_set] at this
    rw [List.getElem?_set_self hl] at q
    cases q
    exact ⟨v, List.getElem?_set_self (by rw [← x.1]; exact hl), h⟩
  · rw [List.getElem?_set_ne (Ne.symm hj)] at q
    obtain ⟨w, h1, h2⟩ := x.2 j e q
    exact ⟨w, by rw [List.getElem?_set_ne (Ne.symm hj)]; exact h1, h2⟩
theorem RE.wipe {c : Cn} {ι : List Addr} {H : Hp} {env : Env} {σ : L2.St} (x : RE c ι H env σ) : ∀ is : List Nat, RE c ι H (MP.wipe env is) (L2.wipe σ is)
  | [] => x
  | i :: is => by
    have y := RE.wipe x is
    show RE c ι H ((MP.wipe env is).set i none) ((L2.wipe σ is).set i none)
    refine ⟨by rw [List.length_set, List.length_set]; exact y.1, fun j e q => ?_⟩
    by_cases hj : j = i
    · subst hj
      have hl : j < (MP.wipe env is).length := by
        have := (List.getElem?_eq_some_iff.mp q).1
        rwa [List.length_set] at this
      rw [List.getElem?_set_self hl] at q
      cases q
    · rw [List.getElem?_set_ne (Ne.symm hj)] at q
      obtain ⟨w, h1, h2⟩ := y.2 j e q
      exact ⟨w, by rw [List.getElem?_set_ne (Ne.symm hj)]; exact h1, h2⟩
theorem RE.per {c : Cn} {ι : List Addr} {H H' : Hp} {env : Env} {σ : L2.St} (s : Per ι H H') (x : RE c ι H env σ) : RE c ι H' env σ :=
  ⟨x.1, fun i d e => let ⟨v, h1, h2⟩ := x.2 i d e; ⟨v, h1, h2.per s⟩⟩
theorem lkAt_some {env : Env} {i : Nat} {h : Hm} {n : Nat} {kvs : List (D × D)} (e : lkAt env i h = some (n, kvs)) : env[i]? = some (some (.ref n)) ∧ h[n]? = some (.dic kvs) := by
  unfold lkAt at e
  split at e
  · rename_i m q
    split at e
    · rename_i k q2
      cases e
      exact ⟨q, q2⟩
    · cases e
  · cases e
/-- a dict is locked the while -/
def lkM (i : Nat) (m : Env → Hm → Res RV) : Env → Hm → Res RV := fun env h => match lkAt env i h with
  | some (n, kvs) => (m env (h.set n (.fdc kvs))).noexc.bind fun r h1 => unlk n r h1
  | none => m env h
def lksM (i : Nat) (m : Env → Hm → Res Out) : Env → Hm → Res Out := fun env h => match lkAt env i h with
  | some (n, kvs) => (m env (h.set n (.fdc kvs))).noexc.bind fun r h1 => unlk n r h1
  | none => m env h
theorem RR.unlock {c : Cn} {ι : List Addr} {H0 HL H : Hp} {a : Addr} {x : Obj} {ks : List (Key × V)} {r : RV} {v : V} (k : ∀ b, HL b = none → H0 b = none) (m : a ∈ ι) (e : H a = some (.frz x (.dK ks))) (w : RR c HL ι H r v) : RR c H0 ι (L2.upd H a (.dK ks)) r v := by
  cases r with
  | v d => exact RD.per (Per.unlock e) w
  | l xs =>
    obtain ⟨b, vs, e1, h1, h2, h3, h4⟩ := w
    have z : b ≠ a := fun z => h2 (by rw [z]; exact m)
    exact ⟨b, vs, e1, by rw [upd_ne z]; exact h1, h2, k b h3, h4.per (Per.unlock e)⟩
/-- an expression's reading -/
def tE (c : Cn) (W : WX) (m : Env → Hm → Res RV) : TE := fun σ H Q => ∃ ι env h, RE c ι H env σ ∧ RH c ι H h ∧ After c ι H (m env h) (RR c H) Q fun e H' => W (c.X e) none σ H'
def tEs (c : Cn) (W : WX) (m : Env → Hm → Res (List RV)) : TA := fun σ H Q => ∃ ι env h, RE c ι H env σ ∧ RH c ι H h ∧ After c ι H (m env h) (RRs c H) Q fun e H' => W (c.X e) none σ H'
/-- a test's -/
def RB (_ : List Addr) (_ : Hp) (r : RV) (b : Bool) : Prop := r = .v (.bl b)
def tT (c : Cn) (W : WX) (m : Env → Hm → Res RV) : TT := fun σ H Q => ∃ ι env h, RE c ι H env σ ∧ RH c ι H h ∧ (∀ r h', m env h = .ok r h' → ∃ b, r = .v (.bl b)) ∧ After c ι H (m env h) RB Q fun e H' => W (c.X e) none σ H'
end MP

/-! MP2c: the order of tuples, the items compared up to where they part. -/
namespace MP
open PySem PySem.SeqAt PySem.MeetsSeq
open PySem.AutoSeq1 (wpAny_loadPart')

theorem tupltAt (l b : Addr) (us ws : Array Value) (n m : Nat) (d1 d2 : Option Addr) (sl sl2 : Array (Option Value)) (e r : Nat → Bool) :
    Meets (Builtin.«tuple.__lt__» ⟨[.ref l, .ref b], []⟩)
      (fun A R s => s.heap.get? l = some { cls := .type "tuple", dict := d1, data := .seq us n, slots := sl } ∧ s.heap.get? b = some { cls := .type "tuple", dict := d2, data := .seq ws m, slots := sl2 } ∧
        (∀ j (h1 : j < us.size) (h2 : j < ws.size), EqAt A.in1 s us[j] ws[j] (e j)) ∧
        (∀ j (h1 : j < us.size) (h2 : j < ws.size), (∀ i, i < j → e i = true) → e j = false → Ob.RcOp .Lt A.in1 s us[j] ws[j] (r j)) ∧
        R (.ok (.ret (.bool (Ob.lexAt e r (decide (us.size < ws.size)) 0 (min us.size ws.size))))) s) :=
  .of_wp fun prog w A R s h => by
    obtain ⟨hp, g, d, tk, os⟩ := s
    obtain ⟨hl, hb, he, hr, h⟩ := h
    have f2 := AutoSeq1.sub_tuple_tuple
    have hZ : (us.toList.zip ws.toList).length = min us.size ws.size := by simp
    wp_walk using wpAny_loadPart' hl, wpAny_loadPart' hb, wpAny_forIn_list _ (fun rest b s' => b.1 = none ∧ s' = ⟨hp, g, d, tk, os⟩ ∧ ∃ i, rest = (us.toList.zip ws.toList).drop i ∧ (∀ k, k < i → e k = true) ∧
      R (.ok (.ret (.bool (Ob.lexAt e r (decide (us.size < ws.size)) i (min us.size ws.size - i))))) ⟨hp, g, d, tk, os⟩) _
    case turn =>
      rintro ⟨y, x⟩ rest b s' ⟨hb', rfl, i, hz, hpre, hR⟩
      have hlt : i < (us.toList.zip ws.toList).length := Nat.lt_of_not_le fun q => by
        rw [List.drop_of_length_le q] at hz
        cases hz
      have hm : i < min us.size ws.size := hZ ▸ hlt
      have h1 : i < us.size := by omega
      have h2 : i < ws.size := by omega
      rw [List.drop_eq_getElem_cons hlt] at hz
      injection hz with hyx hrest
      obtain ⟨rfl, rfl⟩ : y = us[i] ∧ x = ws[i] := by
        simpa using hyx
      rw [show min us.size ws.size - i = (min us.size ws.size - (i + 1)) + 1 by omega, Ob.lexAt_succ] at hR
      refine wpAny_bind (he i h1 h2 prog w _ _ ?_)
      cases hei : e i with
      | true =>
        rw [hei, if_pos rfl] at hR
        wp_walk
        refine ⟨rfl, rfl, i + 1, hrest, fun k hk => ?_, hR⟩
        by_cases q : k = i
        · rw [q]; exact hei
        · exact hpre k (by omega)
      | false =>
        rw [hei, if_neg Bool.false_ne_true] at hR
        have hri := hr i h1 h2 hpre hei prog w
        wp_walk using hri
        exact ⟨_, rfl, by simpa using hR⟩
    case fin =>
      rintro ⟨b1, b2⟩ s' ⟨hb', rfl, i, hz, hpre, hR⟩
      simp only at hb'
      subst hb'
      have hge : min us.size ws.size ≤ i := Nat.le_of_not_lt fun q => by
        rw [List.drop_eq_getElem_cons (hZ ▸ q)] at hz
        cases hz
      rw [Nat.sub_eq_zero_of_le hge, Ob.lexAt_zero] at hR
      wp_walk
      exact ⟨_, rfl, by simpa [Builtin.Tuple.tupleCompareSizes] using hR⟩
    case h => exact ⟨rfl, rfl, 0, rfl, fun k hk => absurd hk (Nat.not_lt_zero k), by simpa using h⟩
theorem rc_tuplt {A : Around} {s : Shared} {l b : Addr} {us ws : Array Value} {e r : Nat → Bool} (hl : s.heap.IsTuple l us) (hb : s.heap.IsTuple b ws) (hu : A.units < cLine)
    (he : ∀ j (h1 : j < us.size) (h2 : j < ws.size), EqAt A.in1 s us[j] ws[j] (e j))
    (hr : ∀ j (h1 : j < us.size) (h2 : j < ws.size), (∀ i, i < j → e i = true) → e j = false → Ob.RcOp .Lt A.in1 s us[j] ws[j] (r j)) :
    Ob.RcOp .Lt A s (.ref l) (.ref b) (Ob.lexAt e r (decide (us.size < ws.size)) 0 (min us.size ws.size)) := fun prog w E Q h => by
  obtain ⟨⟨c1, d1, t1, sl⟩, ho, hc, n, hd⟩ := id hl
  obtain ⟨⟨c2, d2, t2, sl2⟩, ho2, hc2, m, hd2⟩ := id hb
  dsimp only at hc hd hc2 hd2
  subst hc hd hc2 hd2
  exact richCompare_meets_room (op := .Lt) ⟨_, ho, rfl⟩ ⟨_, ho2, rfl⟩ F.slot_tuple_lt F.entry_tuple_lt (F.args_tuple_lt_2 _ _) (tupltAt l b us ws n m d1 d2 sl sl2 e r)
    ⟨ho, ho2, he, hr, ⟨(fun x => nomatch x), h⟩⟩ hu

theorem tupgeAt (l b : Addr) (us ws : Array Value) (n m : Nat) (d1 d2 : Option Addr) (sl sl2 : Array (Option Value)) (e r : Nat → Bool) :
    Meets (Builtin.«tuple.__ge__» ⟨[.ref l, .ref b], []⟩)
      (fun A R s => s.heap.get? l = some { cls := .type "tuple", dict := d1, data := .seq us n, slots := sl } ∧ s.heap.get? b = some { cls := .type "tuple", dict := d2, data := .seq ws m, slots := sl2 } ∧
        (∀ j (h1 : j < us.size) (h2 : j < ws.size), EqAt A.in1 s us[j] ws[j] (e j)) ∧
        (∀ j (h1 : j < us.size) (h2 : j < ws.size), (∀ i, i < j → e i = true) → e j = false → Ob.RcOp .GtE A.in1 s us[j] ws[j] (r j)) ∧
        R (.ok (.ret (.bool (Ob.lexAt e r (decide (us.size ≥ ws.size)) 0 (min us.size ws.size))))) s) :=
  .of_wp fun prog w A R s h => by
    obtain ⟨hp, g, d, tk, os⟩ := s
    obtain ⟨hl, hb, he, hr, h⟩ := h
    have f2 := AutoSeq1.sub_tuple_tuple
    have hZ : (us.toList.zip ws.toList).length = min us.size ws.size := by simp
    wp_walk using wpAny_loadPart' hl, wpAny_loadPart' hb, wpAny_forIn_list _ (fun rest b s' => b.1 = none ∧ s' = ⟨hp, g, d, tk, os⟩ ∧ ∃ i, rest = (us.toList.zip ws.toList).drop i ∧ (∀ k, k < i → e k = true) ∧
      R (.ok (.ret (.bool (Ob.lexAt e r (decide (us.size ≥ ws.size)) i (min us.size ws.size - i))))) ⟨hp, g, d, tk, os⟩) _
    case turn =>
      rintro ⟨y, x⟩ rest b s' ⟨hb', rfl, i, hz, hpre, hR⟩
      have hlt : i < (us.toList.zip ws.toList).length := Nat.lt_of_not_le fun q => by
        rw [List.drop_of_length_le q] at hz
        cases hz
      have hm : i < min us.size ws.size := hZ ▸ hlt
      have h1 : i < us.size := by omega
      have h2 : i < ws.size := by omega
      rw [List.drop_eq_getElem_cons hlt] at hz
      injection hz with hyx hrest
      obtain ⟨rfl, rfl⟩ : y = us[i] ∧ x = ws[i] := by
        simpa using hyx
      rw [show min us.size ws.size - i = (min us.size ws.size - (i + 1)) + 1 by omega, Ob.lexAt_succ] at hR
      refine wpAny_bind (he i h1 h2 prog w _ _ ?_)
      cases hei : e i with
      | true =>
        rw [hei, if_pos rfl] at hR
        wp_walk
        refine ⟨rfl, rfl, i + 1, hrest, fun k hk => ?_, hR⟩
        by_cases q : k = i
        · rw [q]; exact hei
        · exact hpre k (by omega)
      | false =>
        rw [hei, if_neg Bool.false_ne_true] at hR
        have hri := hr i h1 h2 hpre hei prog w
        wp_walk using hri
        exact ⟨_, rfl, by simpa using hR⟩
    case fin =>
      rintro ⟨b1, b2⟩ s' ⟨hb', rfl, i, hz, hpre, hR⟩
      simp only at hb'
      subst hb'
      have hge : min us.size ws.size ≤ i := Nat.le_of_not_lt fun q => by
        rw [List.drop_eq_getElem_cons (hZ ▸ q)] at hz
        cases hz
      rw [Nat.sub_eq_zero_of_le hge, Ob.lexAt_zero] at hR
      wp_walk
      exact ⟨_, rfl, by simpa [Builtin.Tuple.tupleCompareSizes] using hR⟩
    case h => exact ⟨rfl, rfl, 0, rfl, fun k hk => absurd hk (Nat.not_lt_zero k), by simpa using h⟩
theorem rc_tupge {A : Around} {s : Shared} {l b : Addr} {us ws : Array Value} {e r : Nat → Bool} (hl : s.heap.IsTuple l us) (hb : s.heap.IsTuple b ws) (hu : A.units < cLine)
    (he : ∀ j (h1 : j < us.size) (h2 : j < ws.size), EqAt A.in1 s us[j] ws[j] (e j))
    (hr : ∀ j (h1 : j < us.size) (h2 : j < ws.size), (∀ i, i < j → e i = true) → e j = false → Ob.RcOp .GtE A.in1 s us[j] ws[j] (r j)) :
    Ob.RcOp .GtE A s (.ref l) (.ref b) (Ob.lexAt e r (decide (us.size ≥ ws.size)) 0 (min us.size ws.size)) := fun prog w E Q h => by
  obtain ⟨⟨c1, d1, t1, sl⟩, ho, hc, n, hd⟩ := id hl
  obtain ⟨⟨c2, d2, t2, sl2⟩, ho2, hc2, m, hd2⟩ := id hb
  dsimp only at hc hd hc2 hd2
  subst hc hd hc2 hd2
  exact richCompare_meets_room (op := .GtE) ⟨_, ho, rfl⟩ ⟨_, ho2, rfl⟩ F.slot_tuple_ge F.entry_tuple_ge (F.args_tuple_ge_2 _ _) (tupgeAt l b us ws n m d1 d2 sl sl2 e r)
    ⟨ho, ho2, he, hr, ⟨(fun x => nomatch x), h⟩⟩ hu
end MP

namespace MP
open PySem PySem.Spec PyProof.Rows L2
theorem tuple_mul1 (l : Addr) (items : Array Value) (n : Nat) (dd : Option Addr) (sl : Array (Option Value)) (x : Int) (u : Tok) (c0 : (decide (x < -(2 ^ 63)) || decide (x ≥ 2 ^ 63)) = false) (c1 : (items.isEmpty || x == 1) = true) :
    Meets (Builtin.«tuple.__mul__» ⟨[.ref l, .int x u], []⟩) (fun _ R s => s.heap.get? l = some { cls := .type "tuple", dict := dd, data := .seq items n, slots := sl } ∧ R (.ok (.ret (Value.ref l))) s) :=
  .of_wp fun prog w A R s h => by
    obtain ⟨hp, g, d, tk, os⟩ := s
    obtain ⟨hl, h⟩ := h
    have f1 := AutoSeq1.idx_int
    wp_walk using wpAny_loadPart' hl
    refine wpAny_ite_false (decide_eq_false (by rw [c0]; exact Bool.false_ne_true)) ?_
    wp_walk using wpAny_loadPart' hl
    exact ⟨_, rfl, h⟩
theorem tuple_mul0 (l : Addr) (items : Array Value) (n : Nat) (dd : Option Addr) (sl : Array (Option Value)) (x : Int) (u : Tok) (c0 : (decide (x < -(2 ^ 63)) || decide (x ≥ 2 ^ 63)) = false) (c1 : (items.isEmpty || x == 1) = false) (c2 : (decide (x ≤ 0) || items.isEmpty) = true) :
    Meets (Builtin.«tuple.__mul__» ⟨[.ref l, .int x u], []⟩) (fun _ R s => s.heap.get? l = some { cls := .type "tuple", dict := dd, data := .seq items n, slots := sl } ∧
      R (.ok (.ret (Value.ref s.heap.objs.size))) { s with heap := s.heap.push { cls := Value.type "tuple", data := Data.seq #[] }, toks := s.toks }) :=
  .of_wp fun prog w A R s h => by
    obtain ⟨hp, g, d, tk, os⟩ := s
    obtain ⟨hl, h⟩ := h
    have f1 := AutoSeq1.idx_int
    wp_walk using wpAny_loadPart' hl
    refine wpAny_ite_false (decide_eq_false (by rw [c0]; exact Bool.false_ne_true)) ?_
    wp_walk using wpAny_loadPart' hl
    exact ⟨_, rfl, h⟩
def rMulT (K : PySem.W.Frag) : R2 := fun x y H Q => ∃ l k xs, x = .ref l ∧ y = .int k ∧ SqT K H l xs ∧ -1000 ≤ k ∧ k ≤ 1000 ∧ xs.length ≤ 1000 ∧ (xs = [] ∨ k = 1 → Q (.ref l) H) ∧ ∀ p, H p = none → Q (.ref p) (upd H p (.tup (List.replicate k.toNat xs).flatten))
section
variable {X : Cx}
theorem op_mulT : OpR X (binaryOp .Mult) (rMulT X.K) := by
  intro pins s σ H x y v u Q I rx ry h
  obtain ⟨l, k, xs, rfl, rfl, hT, h1, h2, hz, q1, q⟩ := h
  by_cases big : xs ≠ [] ∧ 2 ≤ k
  · exact op_repT pins s σ H _ _ v u Q I rx ry ⟨l, k, xs, rfl, rfl, hT, big.1, big.2, h2, hz, q⟩
  cases rx
  obtain ⟨t, rfl⟩ := ry
  obtain ⟨its, r, ⟨⟨cls, dd, data, sl⟩, ho, hc, n, hd⟩, hs⟩ := I.tuple hT
  simp only at hc hd
  subst hc hd
  have hle : its.length = xs.length := r.length.symm
  have c0 : (decide (k < -(2 ^ 63)) || decide (k ≥ 2 ^ 63)) = false := by
    rw [decide_eq_false (by omega), decide_eq_false (by omega)] <;> rfl
  by_cases one : xs = [] ∨ k = 1
  · have c1 : (its.toArray.isEmpty || k == 1) = true := by
      rcases one with e | e
      · subst e
        have : its = [] := List.eq_nil_of_length_eq_zero (by simpa using hle)
        rw [this]; rfl
      · subst e
        simp
    exact wpAny_binaryOp_repeat_ref (T := "tuple") (U := "int") (by decide) ⟨_, ho, rfl⟩ (fun s' => typeIs_int s' k t) noFill_tuple_mul F.fills_int_mul F.slot_int_rmul repeat_tuple F.slot_int_index.lookup
      (call_meets F.slot_int_rmul (typeIs_int s k t) F.entry_int_rmul (F.args_int_rmul_2 _ _) (int_rmul_tuple k t l its.toArray n dd sl)
        ⟨ho, rfl, ⟨_, ho, rfl⟩, call_meets F.slot_tuple_mul ⟨_, ho, rfl⟩ F.entry_tuple_mul (F.args_tuple_mul_2 _ _) (tuple_mul1 l its.toArray n dd sl k t c0 c1) ⟨ho, ⟨.ref l, H, I, rfl, q1 one⟩⟩⟩)
  · have ne : xs ≠ [] := fun e => one (.inl e)
    have k0 : k ≤ 0 := by
      have : ¬ 2 ≤ k := fun z => big ⟨ne, z⟩
      have : k ≠ 1 := fun z => one (.inr z)
      omega
    have hi : its.toArray.isEmpty = false := by
      cases its with
      | nil => exact absurd (List.eq_nil_of_length_eq_zero hle.symm) ne
      | cons a b => rfl
    have c1 : (its.toArray.isEmpty || k == 1) = false := by
      rw [hi, Bool.false_or]
      exact beq_eq_false_iff_ne.mpr (by omega)
    have c2 : (decide (k ≤ 0) || its.toArray.isEmpty) = true := by
      rw [decide_eq_true k0]; rfl
    refine wpAny_binaryOp_repeat_ref (T := "tuple") (U := "int") (by decide) ⟨_, ho, rfl⟩ (fun s' => typeIs_int s' k t) noFill_tuple_mul F.fills_int_mul F.slot_int_rmul repeat_tuple F.slot_int_index.lookup
      (call_meets F.slot_int_rmul (typeIs_int s k t) F.entry_int_rmul (F.args_int_rmul_2 _ _) (int_rmul_tuple k t l its.toArray n dd sl)
        ⟨ho, rfl, ⟨_, ho, rfl⟩, call_meets F.slot_tuple_mul ⟨_, ho, rfl⟩ F.entry_tuple_mul (F.args_tuple_mul_2 _ _) (tuple_mul0 l its.toArray n dd sl k t c0 c1 c2) ⟨ho, ?_⟩⟩)
    have e0 : (List.replicate k.toNat xs).flatten = [] := by
      rw [show k.toNat = 0 by omega]; rfl
    rw [e0] at q
    refine ⟨.ref s.heap.objs.size, _, I.laid (t' := s.toks) (o := .tup []) (fun b ob q => Heap.get?_push_of_some _ q) (Nat.le_refl _) ?_, rfl, q _ (I.hok.fresh (Nat.le_refl _))⟩
    exact ⟨by decide, [], .nil, IsTup.new _ _⟩
end
end MP

/-! MP3: operators, comparisons, subscripts, built-ins by values. -/
namespace MP
open PySem PySem.Spec PyProof.Rows L2
theorem sl_eq : sizeLine = SL := sizeLine_eq
section
variable {X : Cx} {c : Cn} {ι : List Addr} {H H0 : Hp} {h : Hm} {Q : VK} {W : Nat → Hp → Prop} {r : RV} {x : V}
/-! ### readings of values -/
theorem rw_int {i : Int} (w : RW c ι H (.v (.int i)) x) : x = .int i := by cases w; rfl
theorem rw_str {z : Tx} (w : RW c ι H (.v (.str z)) x) : x = .str (st z) := by cases w; rfl
theorem rw_bl {b : Bool} (w : RW c ι H (.v (.bl b)) x) : x = .bl b := by cases w; rfl
theorem rw_tup {ds : List D} (w : RW c ι H (.v (.tup ds)) x) : ∃ a vs, x = .ref a ∧ SqT c.K H a vs ∧ RDs c ι H ds vs := by
  cases w with
  | tup h r => exact ⟨_, _, rfl, h, r⟩
theorem rw_ref {n : Nat} (w : RW c ι H (.v (.ref n)) x) : ∃ a, x = .ref a ∧ ι[n]? = some a := by
  cases w with
  | ref h => exact ⟨_, rfl, h⟩
theorem listAt_some {h : Hm} {n : Nat} {xs : List D} (e : listAt h n = some xs) : h[n]? = some (.lst xs) := by
  unfold listAt at e
  split at e
  · rename_i q
    cases e
    exact q
  · cases e
/-- a list that may be written -/
theorem rw_trk {xs : List D} (R : RH c ι H h) (w : RW c ι H r x) (e : r.trk? h = some xs) : ∃ a vs, x = .ref a ∧ H a = some (.lst vs) ∧ RDs c ι H xs vs := by
  cases r with
  | l ys =>
    cases e
    obtain ⟨a, vs, e1, h1, _, h2⟩ := w
    exact ⟨a, vs, e1, h1, h2⟩
  | v d =>
    cases d with
    | ref n =>
      obtain ⟨a, rfl, e1⟩ := rw_ref w
      have q := listAt_some (show listAt h n = some xs from e)
      obtain ⟨vs, h1, h2⟩ := R.obj n _ a q e1
      exact ⟨a, vs, rfl, h1, h2⟩
    | _ => cases e
theorem rw_lst {xs : List D} (R : RH c ι H h) (w : RW c ι H r x) (e : r.lst? h = some xs) : ∃ a vs, x = .ref a ∧ SqL c.K H a vs ∧ RDs c ι H xs vs := by
  have k : r.trk? h = some xs → ∃ a vs, x = .ref a ∧ SqL c.K H a vs ∧ RDs c ι H xs vs := fun e =>
    let ⟨a, vs, h1, h2, h3⟩ := rw_trk R w e
    ⟨a, vs, h1, SqL.of h2, h3⟩
  cases r with
  | l ys => exact k e
  | v d =>
    cases d with
    | ref n => exact k e
    | fz ys =>
      cases e
      cases w with
      | fz h1 h2 => exact ⟨_, _, rfl, h1.l, h2⟩
    | _ => cases e
theorem rw_seq {xs : List D} (R : RH c ι H h) (w : RW c ι H r x) (e : r.seq? h = some xs) : ∃ a vs, x = .ref a ∧ (SqL c.K H a vs ∨ SqT c.K H a vs) ∧ RDs c ι H xs vs := by
  have k : r.lst? h = some xs → ∃ a vs, x = .ref a ∧ (SqL c.K H a vs ∨ SqT c.K H a vs) ∧ RDs c ι H xs vs := fun e =>
    let ⟨a, vs, h1, h2, h3⟩ := rw_lst R w e
    ⟨a, vs, h1, .inl h2, h3⟩
  cases r with
  | l ys => exact k e
  | v d =>
    cases d with
    | ref n => exact k e
    | fz ys => exact k e
    | tup ys =>
      cases e
      obtain ⟨a, vs, h1, h2, h3⟩ := rw_tup w
      exact ⟨a, vs, h1, .inr h2, h3⟩
    | _ => cases e
/-! ### ends -/
theorem end1 {d : D} {v : V} (a : After c ι H (ok1 d h) (RR c H0) Q W) (R : RH c ι H h) (r : RD c ι H d v) : Q v H := a ι H v Stp.refl R r
theorem endN {xs : List D} {vs : List V} {p : Addr} (a : After c ι H (.ok (.l xs) h) (RR c H) Q W) (R : RH c ι H h) (n : H p = none) (r : RDs c ι H xs vs) : Q (.ref p) (upd H p (.lst vs)) :=
  a ι (upd H p (.lst vs)) (.ref p) (Stp.upd n) (R.upd n) ⟨p, vs, rfl, upd_same, R.notIn n, n, r.mono (Stp.upd n)⟩
theorem endT {xs : List D} {vs : List V} {p : Addr} (a : After c ι H (ok1 (.tup xs) h) (RR c H0) Q W) (R : RH c ι H h) (n : H p = none) (r : RDs c ι H xs vs) : Q (.ref p) (upd H p (.tup vs)) :=
  a ι (upd H p (.tup vs)) (.ref p) (Stp.upd n) (R.upd n) (.tup (SqT.of upd_same) (r.mono (Stp.upd n)))
/-- a list is written -/
theorem endW {n : Nat} {p : Addr} {xs : List D} {vs ws : List V} {d : D} {v : V} (a : After c ι H (ok1 d (h.set n (.lst xs))) (RR c H0) Q W) (R : RH c ι H h) (e : ι[n]? = some p) (hp : H p = some (.lst ws)) (r : RDs c ι H xs vs) (rd : RD c ι H d v) : Q v (upd H p (.lst vs)) := by
  have s : Stp ι H ι (upd H p (.lst vs)) := Stp.write R (List.mem_of_getElem? e) (nf_lst hp)
  exact a ι _ v s (R.write e (nf_lst hp) ⟨vs, upd_same, r.mono s⟩) (rd.mono s)

/-! ### a op b -/
def rB (c : Cn) (f : RV → RV → Hm → Res RV) : R2 := fun x y H Q => ∃ ι h r s, RH c ι H h ∧ RW c ι H r x ∧ RW c ι H s y ∧ After c ι H (f r s h) (RR c H) Q (fun _ _ => False)
def BOp.op : BOp → Operator
  | .add => .Add | .sub => .Sub | .mul => .Mult | .fdiv => .FloorDiv | .mod => .Mod | .pow => .Pow
theorem foldl_app (x : Array Nat) : ∀ (n : Nat) (acc : Array Nat), ((List.replicate n x).foldl (· ++ ·) acc).toList = acc.toList ++ (List.replicate n x.toList).flatten
  | 0, acc => by simp
  | n + 1, acc => by
    rw [List.replicate_succ, List.foldl_cons, foldl_app x n, Array.toList_append, List.replicate_succ, List.flatten_cons, List.append_assoc]
theorem txt_mul (z : Tx) (n : Int) : Txt.mul (st z) n = st (rep z n.toNat) := by
  unfold Txt.mul rep
  by_cases h1 : n < 1
  · rw [if_pos h1, show n.toNat = 0 by omega]; rfl
  · rw [if_neg h1]
    by_cases h2 : (n == 1 || (st z).length == 0) = true
    · rw [if_pos h2]
      rw [Bool.or_eq_true] at h2
      rcases h2 with h2 | h2
      · have e : n = 1 := eq_of_beq h2
        subst e
        simp
      · have e : z.length = 0 := by
          have := eq_of_beq h2
          exact this
        have e2 : z = [] := List.eq_nil_of_length_eq_zero e
        subst e2
        have : (List.replicate n.toNat ([] : List Nat)).flatten = [] := by simp
        rw [this]
    · rw [if_neg h2]
      have e := foldl_app z.toArray n.toNat #[]
      have e2 : (List.replicate n.toNat z.toArray).foldl (· ++ ·) #[] = (rep z n.toNat).toArray := by
        apply Array.ext'
        rw [e]
        simp [rep]
      show (⟨_⟩ : Str) = ⟨_⟩
      rw [show (st z).cps = z.toArray from rfl, e2]
      rfl
theorem mul_ok {z : Tx} {n : Int} (h1 : z.length * n.toNat ≤ SL) (h2 : n.toNat ≤ SL) (h3 : -(2 ^ 62) ≤ n) : MulOk (st z) n := by
  have hl : (st z).length = z.length := by show z.toArray.size = _; simp
  have hs : SL = 16777216 := rfl
  refine ⟨?_, fun a b => ?_, fun a b => ?_⟩
  · simp only [Bool.or_eq_false_iff, decide_eq_false_iff_not]
    constructor
    · omega
    · omega
  · rw [hl]
    intro q
    have hn : 0 < n := by omega
    have h4 : (2 ^ 63 - 1) / n < (z.length : Int) := q
    have h5 : (2 ^ 63 - 1 : Int) < z.length * n := by
      have := Int.ediv_lt_iff_lt_mul hn |>.mp h4
      exact this
    have h6 : ((z.length * n.toNat : Nat) : Int) = z.length * n := by
      rw [Int.natCast_mul]
      congr 1
      omega
    rw [← h6] at h5
    omega
  · have e : Builtin.Str.tooLong ((st z).length * n.toNat) = decide (sizeLine < (st z).length * n.toNat) := rfl
    rw [e, hl]
    exact decide_eq_false (by rw [sl_eq]; omega)
theorem op_mulS : OpR X (binaryOp .Mult) (fun x y H Q => ∃ (z : Tx) (n : Int), x = .str (st z) ∧ y = .int n ∧ MulOk (st z) n ∧ Q (.str (st (rep z n.toNat))) H) := by
  intro pins s σ H x y v u Q I rx ry hq
  obtain ⟨z, n, rfl, rfl, ok, q⟩ := hq
  obtain ⟨t, rfl⟩ := rx
  obtain ⟨t', rfl⟩ := ry
  exact PySem.SB.mul ok fun t2 k => ⟨.str _, H, I.tok k, ⟨t2, by rw [txt_mul]⟩, q⟩
theorem op_addS : OpR X (binaryOp .Add) (fun x y H Q => ∃ z w : Tx, x = .str (st z) ∧ y = .str (st w) ∧ z.length + w.length ≤ SL ∧ Q (.str (st (z ++ w))) H) := by
  intro pins s σ H x y v u Q I rx ry hq
  obtain ⟨z, w, rfl, rfl, ok, q⟩ := hq
  obtain ⟨t, rfl⟩ := rx
  obtain ⟨t', rfl⟩ := ry
  have e : (st z : Str) ++ st w = st (z ++ w) := by
    show (⟨z.toArray ++ w.toArray⟩ : Str) = ⟨(z ++ w).toArray⟩
    rw [List.append_toArray]
  refine PyProof.Rows.add_str (fun t2 k => ⟨.str _, H, I.tok k, ⟨t2, by rw [e]⟩, q⟩) ?_
  have h1 : (st z).length = z.length := by show z.toArray.size = _; simp
  have h2 : (st w).length = w.length := by show w.toArray.size = _; simp
  rw [h1, h2, sl_eq]
  exact ok
theorem mulOk_ok {i j : Int} (h : mulOk i j = true) : CMulW i j ∨ CMul i j := by
  unfold mulOk at h
  simp only [Bool.or_eq_true, decide_eq_true_eq] at h
  rcases h with h | h | h
  · exact .inl h
  · exact .inr (.inl ⟨by omega, by omega⟩)
  · exact .inr (.inr ⟨by omega, by omega⟩)
theorem op_bin (hK : X.K = c.K) (op : BOp) : OpR X (binaryOp op.op) (rB c (bopF op)) := by
  intro pins s σ H x y v u Q I rx ry hq
  obtain ⟨ι, h, r, t, R, w1, w2, a⟩ := hq
  unfold bopF at a
  split at a
  · cases rw_int w1; cases rw_int w2
    exact op_add pins s σ H _ _ v u Q I rx ry ⟨_, _, rfl, rfl, end1 a R (.int _)⟩
  · cases rw_int w1; cases rw_int w2
    exact op_sub pins s σ H _ _ v u Q I rx ry ⟨_, _, rfl, rfl, end1 a R (.int _)⟩
  · split at a
    · rename_i hc
      cases rw_int w1; cases rw_int w2
      rcases mulOk_ok hc with hc | hc
      · exact op_mulW pins s σ H _ _ v u Q I rx ry ⟨_, _, rfl, rfl, hc, end1 a R (.int _)⟩
      · exact op_mul pins s σ H _ _ v u Q I rx ry ⟨_, _, rfl, rfl, hc, end1 a R (.int _)⟩
    · exact a.elim
  · split at a
    · rename_i hc
      cases rw_int w1; cases rw_int w2
      have hc' := Bool.and_eq_true_iff.mp hc
      exact op_fdivW pins s σ H _ _ v u Q I rx ry ⟨_, _, rfl, rfl, ⟨of_decide_eq_true hc'.1, of_decide_eq_true hc'.2⟩, end1 a R (.int _)⟩
    · exact a.elim
  · split at a
    · rename_i hc
      cases rw_int w1; cases rw_int w2
      exact op_mod pins s σ H _ _ v u Q I rx ry ⟨_, _, rfl, rfl, hc, end1 a R (.int _)⟩
    · exact a.elim
  · split at a
    · rename_i hc
      cases rw_int w1; cases rw_int w2
      have hc' := Bool.and_eq_true_iff.mp hc
      have hc2 := Bool.and_eq_true_iff.mp hc'.1
      exact op_pow pins s σ H _ _ v u Q I rx ry ⟨_, _, rfl, rfl, ⟨of_decide_eq_true hc2.1, of_decide_eq_true hc2.2, of_decide_eq_true hc'.2⟩, end1 a R (.int _)⟩
    · exact a.elim
  · split at a
    · rename_i hc
      cases rw_str w1; cases rw_str w2
      exact op_addS pins s σ H _ _ v u Q I rx ry ⟨_, _, rfl, rfl, hc, end1 a R (.str _)⟩
    · exact a.elim
  · split at a
    · rename_i hc
      obtain ⟨a1, vs, rfl, h1, d1⟩ := rw_tup w1
      obtain ⟨a2, ws, rfl, h2, d2⟩ := rw_tup w2
      refine op_catA pins s σ H _ _ v u Q I rx ry ⟨a1, a2, vs, ws, rfl, rfl, hK ▸ h1, hK ▸ h2, by rw [← d1.length, ← d2.length, sl_eq]; exact hc, fun e => ?_, fun e e2 => ?_, fun e e2 p n => ?_⟩
      · subst e
        cases d1
        exact end1 a R (.tup h2 d2)
      · subst e2
        cases d2
        rw [List.append_nil] at a
        exact end1 a R (.tup h1 d1)
      · exact endT a R n (d1.append d2)
    · exact a.elim
  · split at a
    · rename_i hc
      obtain ⟨hc1, hc2, hc3⟩ := hc
      cases rw_str w1; cases rw_int w2
      exact op_mulS pins s σ H _ _ v u Q I rx ry ⟨_, _, rfl, rfl, mul_ok hc1 hc2 hc3, end1 a R (.str _)⟩
    · exact a.elim
  · split at a
    · rename_i hc
      obtain ⟨hc1, hc2, hc3⟩ := hc
      obtain ⟨a1, vs, rfl, h1, d1⟩ := rw_tup w1
      cases rw_int w2
      refine op_mulT pins s σ H _ _ v u Q I rx ry ⟨a1, _, vs, rfl, rfl, hK ▸ h1, hc2, hc3, by rw [← d1.length]; exact hc1, fun e => ?_, fun p n => ?_⟩
      · rcases e with e | e
        · subst e
          cases d1
          rw [show rep ([] : List D) _ = [] by unfold rep; simp] at a
          exact end1 a R (.tup h1 .nil)
        · subst e
          rw [show rep _ (1 : Int).toNat = _ by unfold rep; simp; rfl] at a
          exact end1 a R (.tup h1 d1)
      · exact endT a R n (d1.rep _)
    · exact a.elim
  · split at a
    · rename_i hc
      obtain ⟨hc1, hc2, hc3⟩ := hc
      obtain ⟨a1, vs, rfl, h1, d1⟩ := rw_trk R w1 rfl
      cases rw_int w2
      refine op_rep pins s σ H _ _ v u Q I rx ry ⟨a1, _, vs, rfl, rfl, h1, by omega, by omega, ?_, fun p n => endN a R n (d1.rep _)⟩
      rw [← d1.length]
      refine Nat.le_trans (Nat.mul_le_mul hc1 (show _ ≤ 1000 by omega)) ?_
      rw [sizeLine_eq]; decide
    · exact a.elim
  · split at a
    · rename_i e1 e2
      split at a
      · rename_i hc
        obtain ⟨a1, vs, rfl, h1, d1⟩ := rw_trk R w1 e1
        obtain ⟨a2, ws, rfl, h2, d2⟩ := rw_trk R w2 e2
        exact op_cat pins s σ H _ _ v u Q I rx ry ⟨a1, a2, vs, ws, rfl, rfl, h1, h2, by rw [← d1.length, ← d2.length, sl_eq]; exact hc, fun p n => endN a R n (d1.append d2)⟩
      · exact a.elim
    · exact a.elim
  · exact a.elim
end
end MP

/-! MP3b: comparisons. -/
namespace MP
open PySem PySem.Spec PyProof.Rows L2
section
variable {X : Cx} {c : Cn} {ι : List Addr} {H H0 : Hp} {h : Hm} {Q : VK} {W : Nat → Hp → Prop} {r : RV} {x : V} {pins : List (Addr × Obj)} {σ : L2.St} {s : Shared}
/-! ### data -/
theorem toPs_ok {f : D → Option PyData} {n : Nat} (ih : ∀ d v p, f d = some p → RD c ι H d v → Dp c.K H v p ∧ p.canLay0 = true ∧ p.depth ≤ n) :
    ∀ {ds : List D} {vs : List V} {ps : List PyData}, mapO f ds = some ps → RDs c ι H ds vs → DpAll c.K H vs ps ∧ PyData.canLayAll0 ps = true ∧ PyData.depthAll ps ≤ n
  | [], _, _, e, .nil => by
    cases e
    exact ⟨.nil, by simp [PyData.canLayAll0], by simp [PyData.depthAll]⟩
  | d :: ds, v :: vs, _, e, .cons g r => by
    obtain ⟨p, ps, h1, h2, rfl⟩ := mapO_cons e
    obtain ⟨a1, a2, a3⟩ := ih _ _ _ h1 g
    obtain ⟨b1, b2, b3⟩ := toPs_ok ih h2 r
    exact ⟨.cons a1 b1, by simp [PyData.canLayAll0, a2, b2], by simp only [PyData.depthAll]; omega⟩
theorem ascii_ok {z : Tx} (e : isAscii z = true) : PyData.strOk (st z) = true := by
  unfold isAscii at e
  unfold PyData.strOk
  show (z.toArray.all fun c => decide (c < 0x110000)) = true
  rw [← Array.all_toList]
  rw [List.all_eq_true] at e ⊢
  intro x m
  have := of_decide_eq_true (e x m)
  exact decide_eq_true (by omega)
theorem toP_ok (R : RH c ι H h) : ∀ (n : Nat) (d : D) (v : V) (p : PyData), toP h n d = some p → RD c ι H d v → Dp c.K H v p ∧ p.canLay0 = true ∧ p.depth ≤ n
  | 0, _, _, _, e, _ => by cases e
  | n + 1, d, v, p, e, g => by
    cases g with
    | non => cases e; exact ⟨.non, by simp [PyData.canLay0], by simp [PyData.depth]⟩
    | bl b => cases e; exact ⟨.bl b, by simp [PyData.canLay0], by simp [PyData.depth]⟩
    | int i => cases e; exact ⟨.int i, by simp [PyData.canLay0], by simp [PyData.depth]⟩
    | str z =>
      have e' : (if isAscii z = true then some (PyData.str (st z)) else none) = some p := e
      split at e'
      · rename_i q
        cases e'
        exact ⟨.str _, by simp only [PyData.canLay0]; exact ascii_ok q, by simp [PyData.depth]⟩
      · cases e'
    | @tup a vs ds g1 g2 =>
      have e' : (mapO (toP h n) ds).map PyData.tuple = some p := e
      obtain ⟨ps, q1, rfl⟩ := Option.map_eq_some_iff.mp e'
      obtain ⟨a1, a2, a3⟩ := toPs_ok (toP_ok R n) q1 g2
      exact ⟨.tup g1 a1, by simp only [PyData.canLay0]; exact a2, by simp only [PyData.depth]; omega⟩
    | @fz a vs ds g1 g2 =>
      have e' : (mapO (toP h n) ds).map PyData.list = some p := e
      obtain ⟨ps, q1, rfl⟩ := Option.map_eq_some_iff.mp e'
      obtain ⟨a1, a2, a3⟩ := toPs_ok (toP_ok R n) q1 g2
      exact ⟨.lst g1.l a1, by simp only [PyData.canLay0]; exact a2, by simp only [PyData.depth]; omega⟩
    | @ref k a g1 =>
      have e' : (match listAt h k with | some xs => (mapO (toP h n) xs).map PyData.list | none => none) = some p := e
      cases q : listAt h k with
      | none => rw [q] at e'; cases e'
      | some ds =>
        rw [q] at e'
        obtain ⟨ps, q1, rfl⟩ := Option.map_eq_some_iff.mp (show (mapO (toP h n) ds).map PyData.list = some p from e')
        obtain ⟨vs, g2, g3⟩ := R.obj k _ a (listAt_some q) g1
        obtain ⟨a1, a2, a3⟩ := toPs_ok (toP_ok R n) q1 g3
        exact ⟨.lst (SqL.of g2) a1, by simp only [PyData.canLay0]; exact a2, by simp only [PyData.depth]; omega⟩
    | fn g1 => cases e
theorem rvP_ok (R : RH c ι H h) {v : V} {p : PyData} (w : RW c ι H r v) (e : r.toP h = some p) : Dp c.K H v p ∧ SeqAt.shaped p = true := by
  have k : ∀ {q : PyData}, q.canLay0 = true → q.depth ≤ 62 → SeqAt.shaped q = true := fun {q} a b => by
    unfold SeqAt.shaped
    rw [Bool.and_eq_true]
    exact ⟨a, decide_eq_true (by omega)⟩
  cases r with
  | v d =>
    obtain ⟨a1, a2, a3⟩ := toP_ok R 62 d v p e w
    exact ⟨a1, k a2 a3⟩
  | l xs =>
    have e' : (mapO (MP.toP h 61) xs).map PyData.list = some p := e
    obtain ⟨ps, q1, rfl⟩ := Option.map_eq_some_iff.mp e'
    obtain ⟨a, vs, rfl, g1, _, g2⟩ := w
    obtain ⟨a1, a2, a3⟩ := toPs_ok (toP_ok R 61) q1 g2
    exact ⟨.lst (SqL.of g1) a1, k (by simp only [PyData.canLay0]; exact a2) (by simp only [PyData.depth]; omega)⟩
/-- == of items -/
theorem eqD_at (hK : X.K = c.K) (I : Inv X pins σ H s) (R : RH c ι H h) {n : Nat} {A : Around} (hu : A.units + n < cLine) {a b : D} {k : Bool} {x y : V} {u v : Value} (e : eqD h n a b = some k) (ra : RD c ι H a x) (rb : RD c ι H b y) (ru : RelV x u) (rv : RelV y v) : SeqAt.EqAt A s u v k := by
  unfold eqD at e
  cases e1 : toP h n a with
  | none => rw [e1] at e; cases e
  | some p =>
    cases e2 : toP h n b with
    | none => rw [e1, e2] at e; cases e
    | some q =>
      rw [e1, e2] at e
      cases e
      obtain ⟨a1, a2, a3⟩ := toP_ok R n a x p e1 ra
      obtain ⟨b1, b2, b3⟩ := toP_ok R n b y q e2 rb
      obtain ⟨as, r1⟩ := Dp.reads I p x u (hK ▸ a1) ru
      obtain ⟨bs, r2⟩ := Dp.reads I q y v (hK ▸ b1) rv
      exact SeqAt.eqAt_reads p q A s u v as bs r1 r2 a2 b2 (by have := Nat.min_le_left p.depth q.depth; omega)

/-! ### the order -/
theorem ltT_lt : ∀ x y : Tx, ltT x y = decide (x < y)
  | [], [] => by simp [ltT]
  | [], _ :: _ => by simp [ltT]
  | _ :: _, [] => by simp [ltT]
  | x :: xs, y :: ys => by
    unfold ltT
    rw [ltT_lt xs ys]
    by_cases e : x = y
    · subst e
      rw [if_pos rfl]
      simp
    · rw [if_neg e]
      rw [decide_eq_decide, List.cons_lt_cons_iff]
      simp [e]
/-- the i-th item's answer -/
def atB (f : D → D → Option Bool) (xs ys : List D) (j : Nat) : Bool := match xs[j]?, ys[j]? with
  | some x, some y => (f x y).getD false
  | _, _ => false
theorem eqAll_get {eq : D → D → Option Bool} : ∀ {xs ys : List D} {j : Nat} {x y : D}, eqAll eq xs ys = true → xs[j]? = some x → ys[j]? = some y → ∃ k, eq x y = some k
  | x :: xs, y :: ys, 0, _, _, e, h1, h2 => by
    cases h1; cases h2
    have := (Bool.and_eq_true_iff.mp (show ((eq x y).isSome && eqAll eq xs ys) = true from e)).1
    exact Option.isSome_iff_exists.mp this
  | x :: xs, y :: ys, j + 1, _, _, e, h1, h2 => eqAll_get (j := j) (Bool.and_eq_true_iff.mp (show ((eq x y).isSome && eqAll eq xs ys) = true from e)).2 (by simpa using h1) (by simpa using h2)
  | [], _, _, _, _, _, h1, _ => by simp at h1
  | _ :: _, [], _, _, _, _, _, h2 => by simp at h2
theorem lexAt_shift {e r e' r' : Nat → Bool} {z : Bool} : ∀ (k i : Nat), (∀ j, e (j + 1) = e' j) → (∀ j, r (j + 1) = r' j) → Ob.lexAt e r z (i + 1) k = Ob.lexAt e' r' z i k
  | 0, _, _, _ => rfl
  | k + 1, i, h1, h2 => by
    rw [Ob.lexAt_succ, Ob.lexAt_succ, h1, h2, lexAt_shift k (i + 1) h1 h2]
theorem ltL_lex {lt eq : D → D → Option Bool} : ∀ {xs ys : List D} {k : Bool}, ltL lt eq xs ys = some k → Ob.lexAt (atB eq xs ys) (atB lt xs ys) (decide (xs.length < ys.length)) 0 (min xs.length ys.length) = k
  | [], [], k, e => by cases e; rfl
  | [], y :: ys, k, e => by cases e; simp [Ob.lexAt_zero]
  | x :: xs, [], k, e => by cases e; simp [Ob.lexAt_zero]
  | x :: xs, y :: ys, k, e => by
    have hm : min (x :: xs).length (y :: ys).length = min xs.length ys.length + 1 := by simp only [List.length_cons]; omega
    rw [hm, Ob.lexAt_succ]
    have h0 : atB eq (x :: xs) (y :: ys) 0 = (eq x y).getD false := rfl
    have h1 : atB lt (x :: xs) (y :: ys) 0 = (lt x y).getD false := rfl
    unfold ltL at e
    split at e
    · rename_i q
      rw [h0, q]
      show (if true = true then _ else _) = k
      rw [if_pos rfl, lexAt_shift _ 0 (e' := atB eq xs ys) (r' := atB lt xs ys) (fun _ => rfl) (fun _ => rfl)]
      have := ltL_lex e
      simpa using this
    · rename_i q
      rw [h0, q, h1, e]
      rfl
    · cases e
theorem geL_lex {ge eq : D → D → Option Bool} : ∀ {xs ys : List D} {k : Bool}, geL ge eq xs ys = some k → Ob.lexAt (atB eq xs ys) (atB ge xs ys) (decide (xs.length ≥ ys.length)) 0 (min xs.length ys.length) = k
  | [], [], k, e => by cases e; rfl
  | [], y :: ys, k, e => by cases e; simp [Ob.lexAt_zero]
  | x :: xs, [], k, e => by cases e; simp [Ob.lexAt_zero]
  | x :: xs, y :: ys, k, e => by
    have hm : min (x :: xs).length (y :: ys).length = min xs.length ys.length + 1 := by simp only [List.length_cons]; omega
    rw [hm, Ob.lexAt_succ]
    have h0 : atB eq (x :: xs) (y :: ys) 0 = (eq x y).getD false := rfl
    have h1 : atB ge (x :: xs) (y :: ys) 0 = (ge x y).getD false := rfl
    unfold geL at e
    split at e
    · rename_i q
      rw [h0, q]
      show (if true = true then _ else _) = k
      rw [if_pos rfl, lexAt_shift _ 0 (e' := atB eq xs ys) (r' := atB ge xs ys) (fun _ => rfl) (fun _ => rfl)]
      have := geL_lex e
      simpa using this
    · rename_i q
      rw [h0, q, h1, e]
      rfl
    · cases e
/-- where they part for the first time, the order is known -/
theorem ltL_at {lt eq : D → D → Option Bool} : ∀ {xs ys : List D} {k : Bool} {j : Nat} {x y : D}, ltL lt eq xs ys = some k → xs[j]? = some x → ys[j]? = some y → (∀ i, i < j → atB eq xs ys i = true) → eq x y = some false → ∃ b, lt x y = some b
  | a :: xs, b :: ys, k, 0, x, y, e, h1, h2, _, q => by
    cases h1; cases h2
    unfold ltL at e
    rw [q] at e
    exact ⟨k, e⟩
  | a :: xs, b :: ys, k, j + 1, x, y, e, h1, h2, hp, q => by
    have h0 : (eq a b).getD false = true := hp 0 (Nat.zero_lt_succ j)
    unfold ltL at e
    split at e
    · exact ltL_at e (by simpa using h1) (by simpa using h2) (fun i hi => hp (i + 1) (by omega)) q
    · rename_i z; rw [z] at h0; cases h0
    · rename_i z; rw [z] at h0; cases h0
  | [], _, _, _, _, _, _, h1, _, _, _ => by simp at h1
  | _ :: _, [], _, _, _, _, _, _, h2, _, _ => by simp at h2
theorem geL_at {ge eq : D → D → Option Bool} : ∀ {xs ys : List D} {k : Bool} {j : Nat} {x y : D}, geL ge eq xs ys = some k → xs[j]? = some x → ys[j]? = some y → (∀ i, i < j → atB eq xs ys i = true) → eq x y = some false → ∃ b, ge x y = some b
  | a :: xs, b :: ys, k, 0, x, y, e, h1, h2, _, q => by
    cases h1; cases h2
    unfold geL at e
    rw [q] at e
    exact ⟨k, e⟩
  | a :: xs, b :: ys, k, j + 1, x, y, e, h1, h2, hp, q => by
    have h0 : (eq a b).getD false = true := hp 0 (Nat.zero_lt_succ j)
    unfold geL at e
    split at e
    · exact geL_at e (by simpa using h1) (by simpa using h2) (fun i hi => hp (i + 1) (by omega)) q
    · rename_i z; rw [z] at h0; cases h0
    · rename_i z; rw [z] at h0; cases h0
  | [], _, _, _, _, _, _, h1, _, _, _ => by simp at h1
  | _ :: _, [], _, _, _, _, _, _, h2, _, _ => by simp at h2
theorem RDs.item {ds : List D} {vs : List V} {us : List Value} {j : Nat} (r : RDs c ι H ds vs) (q : Vals vs us) (h1 : j < us.length) : ∃ d v, ds[j]? = some d ∧ RD c ι H d v ∧ RelV v us[j] := by
  have hl : j < ds.length := by rw [r.length, q.length]; exact h1
  have e : ds[j]? = some ds[j] := List.getElem?_eq_getElem hl
  obtain ⟨v, e1, e2⟩ := r.get e
  obtain ⟨u, e3, e4⟩ := q.get e1
  rw [List.getElem?_eq_getElem h1] at e3
  cases e3
  exact ⟨_, v, e, e2, e4⟩
theorem lt_at (hK : X.K = c.K) (I : Inv X pins σ H s) (R : RH c ι H h) : ∀ (n : Nat) (A : Around), A.units + n < cLine → ∀ (a b : D) (k : Bool) (x y : V) (u v : Value), ltD h n a b = some k → RD c ι H a x → RD c ι H b y → RelV x u → RelV y v → Ob.RcOp .Lt A s u v k
  | 0, _, _, _, _, _, _, _, _, _, e, _, _, _, _ => by cases e
  | n + 1, A, hu, a, b, k, x, y, u, v, e, ra, rb, ru, rv => by
    unfold ltD at e
    split at e
    · cases ra; cases rb
      obtain ⟨t, rfl⟩ := ru
      obtain ⟨t', rfl⟩ := rv
      cases e
      exact Ob.RcOp.lt_int _ _ _ _
    · cases ra; cases rb
      obtain ⟨t, rfl⟩ := ru
      obtain ⟨t', rfl⟩ := rv
      cases e
      rename_i z w
      intro prog w' E Q q
      exact PyProof.Rows.lt_str (by rw [ltT_lt] at q; exact q)
    · split at e
      · rename_i xs ys hall
        obtain ⟨p, vs, rfl, h1, d1⟩ := rw_tup (show RW c ι H (.v (.tup xs)) x from ra)
        obtain ⟨p2, ws, rfl, h2, d2⟩ := rw_tup (show RW c ι H (.v (.tup ys)) y from rb)
        cases ru; cases rv
        obtain ⟨us1, r1, t1, _⟩ := I.tuple (hK ▸ h1)
        obtain ⟨us2, r2, t2, _⟩ := I.tuple (hK ▸ h2)
        have l1 : us1.toArray.size = xs.length := by rw [List.size_toArray, d1.length, r1.length]
        have l2 : us2.toArray.size = ys.length := by rw [List.size_toArray, d2.length, r2.length]
        have hq := ltL_lex e
        rw [← l1, ← l2] at hq
        rw [← hq]
        refine rc_tuplt t1 t2 (by omega) (fun j a1 a2 => ?_) fun j a1 a2 hp he => ?_
        · obtain ⟨d, w1, e1, g1, g2⟩ := d1.item r1 (by simpa using a1)
          obtain ⟨d', w2, e2, g3, g4⟩ := d2.item r2 (by simpa using a2)
          obtain ⟨k', hk⟩ := eqAll_get hall e1 e2
          have eb : atB (eqD h n) xs ys j = k' := by unfold atB; rw [e1, e2]; simp only [hk]; rfl
          rw [eb]
          exact eqD_at hK I R (by show A.units + 1 + n < cLine; omega) hk g1 g3 (by simpa using g2) (by simpa using g4)
        · obtain ⟨d, w1, e1, g1, g2⟩ := d1.item r1 (by simpa using a1)
          obtain ⟨d', w2, e2, g3, g4⟩ := d2.item r2 (by simpa using a2)
          obtain ⟨k', hk⟩ := eqAll_get hall e1 e2
          have eb : atB (eqD h n) xs ys j = k' := by unfold atB; rw [e1, e2]; simp only [hk]; rfl
          rw [eb] at he
          subst he
          obtain ⟨b', hb⟩ := ltL_at e e1 e2 hp hk
          have ec : atB (ltD h n) xs ys j = b' := by unfold atB; rw [e1, e2]; simp only [hb]; rfl
          rw [ec]
          exact lt_at hK I R n A.in1 (by show A.units + 1 + n < cLine; omega) d d' b' w1 w2 _ _ hb g1 g3 (by simpa using g2) (by simpa using g4)
      · cases e
    · cases e
theorem first_lex {e r : Nat → Bool} {z : Bool} : ∀ (k i : Nat), SeqAt.firstLt e r z (List.range' i k) = Ob.lexAt e r z i k
  | 0, _ => rfl
  | k + 1, i => by
    rw [List.range'_succ, Ob.lexAt_succ]
    by_cases h : e i = true
    · rw [SeqAt.firstLt_yes h, if_pos h, first_lex k (i + 1)]
    · rw [SeqAt.firstLt_no (by simpa using h), if_neg h]
theorem isL_of {hp : Heap} {a : Addr} {us : Array Value} (h : PlainL hp a us) : hp.IsList a us := by
  obtain ⟨o, n, e, c, _, d⟩ := h
  exact ⟨o, e, c, n, d⟩
theorem lt_lists (hK : X.K = c.K) (I : Inv X pins σ H s) (R : RH c ι H h) (A : Around) (hu : A.units + 62 < cLine) {a b : RV} {k : Bool} {x y : V} {u v : Value} (e : ltR h a b = some k) (ra : RW c ι H a x) (rb : RW c ι H b y) (ru : RelV x u) (rv : RelV y v) : Ob.RcOp .Lt A s u v k := by
  unfold ltR at e
  split at e
  · rename_i xs ys e1 e2
    split at e
    · rename_i hall
      rw [Bool.and_eq_true, Bool.and_eq_true, List.all_eq_true, List.all_eq_true] at hall
      obtain ⟨⟨s1, s2⟩, hall⟩ := hall
      obtain ⟨p, vs, rfl, h1, d1⟩ := rw_lst R ra e1
      obtain ⟨p2, ws, rfl, h2, d2⟩ := rw_lst R rb e2
      cases ru; cases rv
      obtain ⟨us1, r1, t1, _⟩ := I.list (hK ▸ h1)
      obtain ⟨us2, r2, t2, _⟩ := I.list (hK ▸ h2)
      have l1 : us1.toArray.size = xs.length := by rw [List.size_toArray, d1.length, r1.length]
      have l2 : us2.toArray.size = ys.length := by rw [List.size_toArray, d2.length, r2.length]
      have hq := ltL_lex e
      rw [← l1, ← l2, ← first_lex, ← List.range_eq_range'] at hq
      rw [← hq]
      intro prog w' E Q q
      refine SeqAt.RcLt.lists (isL_of t1) (isL_of t2) (by omega) (fun j a1 a2 => ?_) (fun j a1 a2 he => ?_) prog w' E Q q
      · obtain ⟨d, w1, e1, g1, g2⟩ := d1.item r1 (by simpa using a1)
        obtain ⟨d', w2, e2, g3, g4⟩ := d2.item r2 (by simpa using a2)
        obtain ⟨k', hk⟩ := eqAll_get hall e1 e2
        have eb : atB (eqD h 61) xs ys j = k' := by unfold atB; rw [e1, e2]; simp only [hk]; rfl
        rw [eb]
        exact eqD_at hK I R (by show A.units + 1 + 61 < cLine; omega) hk g1 g3 (by simpa using g2) (by simpa using g4)
      · obtain ⟨d, w1, e1, g1, g2⟩ := d1.item r1 (by simpa using a1)
        obtain ⟨d', w2, e2, g3, g4⟩ := d2.item r2 (by simpa using a2)
        have q1 := s1 d (List.mem_of_getElem? e1)
        have q2 := s2 d' (List.mem_of_getElem? e2)
        obtain ⟨b', hb⟩ : ∃ b', ltD h 61 d d' = some b' := by
          cases d <;> cases q1
          cases d' <;> cases q2
          exact ⟨_, rfl⟩
        have ec : atB (ltD h 61) xs ys j = b' := by unfold atB; rw [e1, e2]; simp only [hb]; rfl
        rw [ec]
        have := lt_at hK I R 61 A.in1 (by show A.units + 1 + 61 < cLine; omega) d d' b' w1 w2 _ _ hb g1 g3 (by simpa using g2) (by simpa using g4)
        exact this
    · cases e
  · cases e
theorem ge_at (hK : X.K = c.K) (I : Inv X pins σ H s) (R : RH c ι H h) : ∀ (n : Nat) (A : Around), A.units + n < cLine → ∀ (a b : D) (k : Bool) (x y : V) (u v : Value), geD h n a b = some k → RD c ι H a x → RD c ι H b y → RelV x u → RelV y v → Ob.RcOp .GtE A s u v k
  | 0, _, _, _, _, _, _, _, _, _, e, _, _, _, _ => by cases e
  | n + 1, A, hu, a, b, k, x, y, u, v, e, ra, rb, ru, rv => by
    unfold geD at e
    split at e
    · cases ra; cases rb
      obtain ⟨t, rfl⟩ := ru
      obtain ⟨t', rfl⟩ := rv
      cases e
      exact Ob.RcOp.ge_int _ _ _ _
    · cases ra; cases rb
      obtain ⟨t, rfl⟩ := ru
      obtain ⟨t', rfl⟩ := rv
      cases e
      intro prog w' E Q q
      exact PySem.P.ge_str (by rw [ltT_lt] at q; exact q)
    · split at e
      · rename_i xs ys hall
        obtain ⟨p, vs, rfl, h1, d1⟩ := rw_tup (show RW c ι H (.v (.tup xs)) x from ra)
        obtain ⟨p2, ws, rfl, h2, d2⟩ := rw_tup (show RW c ι H (.v (.tup ys)) y from rb)
        cases ru; cases rv
        obtain ⟨us1, r1, t1, _⟩ := I.tuple (hK ▸ h1)
        obtain ⟨us2, r2, t2, _⟩ := I.tuple (hK ▸ h2)
        have l1 : us1.toArray.size = xs.length := by rw [List.size_toArray, d1.length, r1.length]
        have l2 : us2.toArray.size = ys.length := by rw [List.size_toArray, d2.length, r2.length]
        have hq := geL_lex e
        rw [← l1, ← l2] at hq
        rw [← hq]
        refine rc_tupge t1 t2 (by omega) (fun j a1 a2 => ?_) fun j a1 a2 hp he => ?_
        · obtain ⟨d, w1, e1, g1, g2⟩ := d1.item r1 (by simpa using a1)
          obtain ⟨d', w2, e2, g3, g4⟩ := d2.item r2 (by simpa using a2)
          obtain ⟨k', hk⟩ := eqAll_get hall e1 e2
          have eb : atB (eqD h n) xs ys j = k' := by unfold atB; rw [e1, e2]; simp only [hk]; rfl
          rw [eb]
          exact eqD_at hK I R (by show A.units + 1 + n < cLine; omega) hk g1 g3 (by simpa using g2) (by simpa using g4)
        · obtain ⟨d, w1, e1, g1, g2⟩ := d1.item r1 (by simpa using a1)
          obtain ⟨d', w2, e2, g3, g4⟩ := d2.item r2 (by simpa using a2)
          obtain ⟨k', hk⟩ := eqAll_get hall e1 e2
          have eb : atB (eqD h n) xs ys j = k' := by unfold atB; rw [e1, e2]; simp only [hk]; rfl
          rw [eb] at he
          subst he
          obtain ⟨b', hb⟩ := geL_at e e1 e2 hp hk
          have ec : atB (geD h n) xs ys j = b' := by unfold atB; rw [e1, e2]; simp only [hb]; rfl
          rw [ec]
          exact ge_at hK I R n A.in1 (by show A.units + 1 + n < cLine; omega) d d' b' w1 w2 _ _ hb g1 g3 (by simpa using g2) (by simpa using g4)
      · cases e
    · cases e
end
end MP

/-! MP3c: comparisons by values; dicts. -/
namespace MP
open PySem PySem.Spec PyProof.Rows L2
section
variable {X : Cx} {c : Cn} {ι : List Addr} {H H0 : Hp} {h : Hm} {Q : VK} {W : Nat → Hp → Prop} {r : RV} {x : V} {pins : List (Addr × Obj)} {σ : L2.St} {s : Shared}
/-! ### dicts -/
theorem kI_inj {k l : Sum Int Tx} (e : kI k = kI l) : k = l := by
  cases k with
  | inl i => cases l with
    | inl j => cases e; rfl
    | inr y => cases e
  | inr x => cases l with
    | inl j => cases e
    | inr y =>
      have e1 : (Sum.inr (st x) : Key) = Sum.inr (st y) := e
      have e2 : st x = st y := Sum.inr.inj e1
      have e3 : x.toArray = y.toArray := by
        have := congrArg Str.cps e2
        exact this
      have : x = y := by simpa using congrArg Array.toList e3
      rw [this]
theorem rd_key {d : D} {k : Sum Int Tx} {v : V} (e : key1 d = some k) (g : RD c ι H d v) : v = kV (kI k) := by
  cases g <;> first | (cases e; rfl) | cases e
theorem RKs.length : ∀ {kvs : List (D × D)} {ks : List (Key × V)}, RKs c ι H kvs ks → kvs.length = ks.length
  | _, _, .nil => rfl
  | _, _, .cons _ _ r => congrArg (· + 1) r.length
theorem RKs.get (k : Sum Int Tx) : ∀ {kvs : List (D × D)} {ks : List (Key × V)}, RKs c ι H kvs ks → (∀ v, kvGet kvs k = some v → ∃ w, valV ks (kI k) = some w ∧ RD c ι H v w) ∧ (kvGet kvs k = none → valV ks (kI k) = none)
  | _, _, .nil => ⟨fun v e => (by cases e), fun _ => rfl⟩
  | (d, e) :: r, (_, w) :: s, .cons (k := k2) h g t => by
    have ih := RKs.get k t
    by_cases q : k2 = k
    · subst q
      have hk : kvGet ((d, e) :: r) k2 = some e := by
        unfold kvGet
        rw [if_pos (show key? d = some k2 from h)]
      rw [hk, valV_pos (p := (kI k2, w)) rfl]
      exact ⟨fun v z => (by cases z; exact ⟨w, rfl, g⟩), fun z => (by cases z)⟩
    · have hk : kvGet ((d, e) :: r) k = kvGet r k := by
        conv => lhs; unfold kvGet
        rw [if_neg (show ¬ key? d = some k from fun z => q (Option.some.inj ((show key? d = some k2 from h).symm.trans z)))]
      rw [hk, valV_neg (p := (kI k2, w)) (fun z => q (kI_inj z))]
      exact ih
theorem ro_fdc {n : Nat} {kvs : List (D × D)} (R : RH c ι H h) (e : h[n]? = some (.fdc kvs)) (g : RW c ι H (.v (.ref n)) x) : ∃ a ks, x = .ref a ∧ ι[n]? = some a ∧ Rd H a (.dK ks) ∧ RKs c ι H kvs ks := by
  obtain ⟨a, rfl, e1⟩ := rw_ref g
  obtain ⟨y, ks, h1, h2⟩ := R.obj n _ a e e1
  exact ⟨a, ks, rfl, e1, .inr ⟨y, h1⟩, h2⟩
theorem DGet.rd {H : Hp} {a : Addr} {kvs : List (Key × V)} {k : Key} (e : Rd H a (.dK kvs)) : DGet H a (kV k) (valV kvs k) := .inl ⟨kvs, k, e, rfl, rfl⟩
/-- a dict, walked or not -/
inductive Dc (h : Hm) (n : Nat) (kvs : List (D × D)) : Prop
  | d (e : h[n]? = some (.dic kvs))
  | f (e : h[n]? = some (.fdc kvs))
theorem ro_dc {n : Nat} {kvs : List (D × D)} (R : RH c ι H h) (e : Dc h n kvs) (g : RW c ι H (.v (.ref n)) x) : ∃ a ks, x = .ref a ∧ ι[n]? = some a ∧ Rd H a (.dK ks) ∧ RKs c ι H kvs ks := by
  cases e with
  | d e =>
    obtain ⟨a, rfl, e1⟩ := rw_ref g
    obtain ⟨ks, h1, h2⟩ := R.obj n _ a e e1
    exact ⟨a, ks, rfl, e1, .inl h1, h2⟩
  | f e => exact ro_fdc R e g
theorem ro_dic {n : Nat} {kvs : List (D × D)} (R : RH c ι H h) (e : h[n]? = some (.dic kvs)) (g : RW c ι H (.v (.ref n)) x) : ∃ a ks, x = .ref a ∧ ι[n]? = some a ∧ H a = some (.dK ks) ∧ RKs c ι H kvs ks := by
  obtain ⟨a, rfl, e1⟩ := rw_ref g
  obtain ⟨ks, h1, h2⟩ := R.obj n _ a e e1
  exact ⟨a, ks, rfl, e1, h1, h2⟩

/-! ### == where a list is empty -/
theorem seq_empty {xs : List D} {vs : List V} (r : RDs c ι H xs vs) : xs.isEmpty = vs.isEmpty := by
  cases r <;> rfl
theorem op_eqE (hu : X.A.units + 65 < cLine) : OpR X (compareOp .Eq) (fun x y H Q => ∃ a b xs, x = .ref a ∧ y = .ref b ∧ SqL X.K H a xs ∧ SqL X.K H b [] ∧ Q (.bl xs.isEmpty) H) := by
  intro pins s σ H x y v u Q I rx ry hq
  obtain ⟨a, b, xs, rfl, rfl, h1, h2, q⟩ := hq
  cases xs with
  | nil =>
    refine op_eqD (X := X) (by omega) pins s σ H _ _ v u Q I rx ry ⟨.list [], .list [], .lst h1 .nil, .lst h2 .nil, by decide, by decide, ?_⟩
    have e : PyData.eqv (.list []) (.list []) = true := by simp only [PyData.eqv, PyData.eqvAll]
    rw [e]
    exact q
  | cons z zs =>
    cases rx; cases ry
    obtain ⟨us, r1, p1, _⟩ := I.list h1
    obtain ⟨ws, r2, p2, _⟩ := I.list h2
    cases r2
    have l1 := r1.length
    exact SeqAt.RcAt.lists_lengths (A := X.A) p1.isList p2.isList (by simp only [List.size_toArray, ← l1, List.length_cons, List.length_nil]; rfl) (by omega) X.prog X.w _ _ ⟨.bl false, H, I, rfl, q⟩
theorem op_neE (hu : X.A.units + 65 < cLine) : OpR X (compareOp .NotEq) (fun x y H Q => ∃ a b xs, x = .ref a ∧ y = .ref b ∧ SqL X.K H a xs ∧ SqL X.K H b [] ∧ Q (.bl (!xs.isEmpty)) H) := by
  intro pins s σ H x y v u Q I rx ry hq
  obtain ⟨a, b, xs, rfl, rfl, h1, h2, q⟩ := hq
  cases xs with
  | nil =>
    refine op_neD (X := X) (by omega) pins s σ H _ _ v u Q I rx ry ⟨.list [], .list [], .lst h1 .nil, .lst h2 .nil, by decide, by decide, ?_⟩
    have e : PyData.eqv (.list []) (.list []) = true := by simp only [PyData.eqv, PyData.eqvAll]
    rw [e]
    exact q
  | cons z zs =>
    cases rx; cases ry
    obtain ⟨us, r1, p1, _⟩ := I.list h1
    obtain ⟨ws, r2, p2, _⟩ := I.list h2
    cases r2
    have l1 := r1.length
    exact SeqAt.RcNeAt.lists_lengths (A := X.A) p1.isList p2.isList (by simp only [List.size_toArray, ← l1, List.length_cons, List.length_nil]; rfl) (by omega) X.prog X.w _ _ ⟨.bl true, H, I, rfl, q⟩
theorem op_inT (hu : X.A.units + 65 < cLine) : OpR X (compareOp .In) (fun x y H Q => ∃ d ds, Dp X.K H x d ∧ Dp X.K H y (.tuple ds) ∧ SeqAt.shaped d = true ∧ SeqAt.shaped (.tuple ds) = true ∧ Q (.bl (ds.any fun z => PyData.eqv z d)) H) := by
  intro pins s σ H x y v u Q I rx ry hq
  obtain ⟨d, ds, h1, h2, s1, s2, q⟩ := hq
  obtain ⟨as, r1⟩ := Dp.reads I d x v h1 rx
  obtain ⟨bs, r2⟩ := Dp.reads I (.tuple ds) y u h2 ry
  exact SeqAt.in_tuple_reads r2 r1 (SeqAt.canLay_of_shaped s2) (SeqAt.canLay_of_shaped s1) (room_in_shaped s1 hu) ⟨.bl _, H, I, rfl, q⟩
theorem op_notInT (hu : X.A.units + 65 < cLine) : OpR X (compareOp .NotIn) (fun x y H Q => ∃ d ds, Dp X.K H x d ∧ Dp X.K H y (.tuple ds) ∧ SeqAt.shaped d = true ∧ SeqAt.shaped (.tuple ds) = true ∧ Q (.bl (!ds.any fun z => PyData.eqv z d)) H) := by
  intro pins s σ H x y v u Q I rx ry hq
  obtain ⟨d, ds, h1, h2, s1, s2, q⟩ := hq
  obtain ⟨as, r1⟩ := Dp.reads I d x v h1 rx
  obtain ⟨bs, r2⟩ := Dp.reads I (.tuple ds) y u h2 ry
  exact SeqAt.notIn_tuple_reads r2 r1 (SeqAt.canLay_of_shaped s2) (SeqAt.canLay_of_shaped s1) (room_in_shaped s1 hu) ⟨.bl _, H, I, rfl, q⟩

def COp.op : COp → CmpOp
  | .eq => .Eq | .ne => .NotEq | .lt => .Lt | .le => .LtE | .gt => .Gt | .ge => .GtE | .inn => .In | .notin => .NotIn | .is_ => .Is | .isnt => .IsNot
theorem eqR_of {a b : RV} {k : Bool} (e : eqR h a b = some k) : ∃ p q, a.toP h = some p ∧ b.toP h = some q ∧ k = PyData.eqv p q := by
  unfold eqR at e
  split at e
  · rename_i p q h1 h2
    cases e
    exact ⟨p, q, h1, h2, rfl⟩
  · cases e
theorem eqF_of {a b : RV} {k : Bool} (e : eqF h a b = some k) : (∃ xs, a.lst? h = some xs ∧ b = .l [] ∧ k = xs.isEmpty) ∨ eqR h a b = some k := by
  unfold eqF at e
  split at e
  · rename_i xs h1
    cases e
    exact .inl ⟨xs, h1, rfl, rfl⟩
  · exact .inr e
theorem inF_of {a b : RV} {k : Bool} (e : inF h a b = some k) : ∃ ps q, (b.toP h = some (.list ps) ∨ b.toP h = some (.tuple ps)) ∧ a.toP h = some q ∧ k = ps.any fun z => PyData.eqv z q := by
  unfold inF at e
  split at e
  · rename_i ps q h1 h2
    cases e
    exact ⟨ps, q, .inl h1, h2, rfl⟩
  · rename_i ps q h1 h2
    cases e
    exact ⟨ps, q, .inr h1, h2, rfl⟩
  · cases e
inductive InHow (h : Hm) (a b : RV) (k : Bool) : Prop
  | sign (z : Nat) (y : Tx) (e1 : a = .v (.str [z])) (e2 : b = .v (.str y)) (e3 : k = decide (z ∈ y))
  | dict (d : D) (n : Nat) (kvs : List (D × D)) (q : Sum Int Tx) (e1 : a = .v d) (e2 : b = .v (.ref n)) (e3 : Dc h n kvs) (e4 : key1 d = some q) (e5 : k = (kvGet kvs q).isSome)
  | data (e : inF h a b = some k)
theorem inAny_of {a b : RV} {k : Bool} (e : inAny h a b = some k) : InHow h a b k := by
  unfold inAny at e
  split at e
  · cases e
    exact .sign _ _ rfl rfl rfl
  · split at e
    · rename_i kvs q
      obtain ⟨q1, h1, rfl⟩ := Option.map_eq_some_iff.mp e
      exact .dict _ _ kvs q1 rfl rfl (.d q) h1 rfl
    · rename_i kvs q
      obtain ⟨q1, h1, rfl⟩ := Option.map_eq_some_iff.mp e
      exact .dict _ _ kvs q1 rfl rfl (.f q) h1 rfl
    · exact .data e
  · exact .data e
theorem op_cmp (hK : X.K = c.K) (hu : X.A.units + 65 < cLine) (op : COp) : OpR X (compareOp op.op) (rB c (copF op)) := by
  intro pins s σ H x y v u Q I rx ry hq
  obtain ⟨ι, h, r, t, R, w1, w2, a⟩ := hq
  unfold copF at a
  split at a
  case h_2 => exact a.elim
  rename_i k e
  have q : Q (.bl k) H := end1 a R (.bl k)
  clear a
  obtain ⟨K0, F0, X0, T0⟩ := c
  obtain rfl : X.K = K0 := hK
  cases op with
  | eq =>
    have e : eqF h r t = some k := e
    rcases eqF_of e with ⟨xs, e1, rfl, rfl⟩ | e
    · obtain ⟨a1, vs, rfl, h1, d1⟩ := rw_lst R w1 e1
      obtain ⟨a2, ws, rfl, h2, _, d2⟩ := w2
      cases d2
      exact op_eqE hu pins s σ H _ _ v u Q I rx ry ⟨a1, a2, vs, rfl, rfl, h1, SqL.of h2, by rw [← seq_empty d1]; exact q⟩
    · obtain ⟨p1, p2, e1, e2, rfl⟩ := eqR_of e
      obtain ⟨g1, g2⟩ := rvP_ok R w1 e1
      obtain ⟨g3, g4⟩ := rvP_ok R w2 e2
      exact op_eqD (by omega) pins s σ H x y v u Q I rx ry ⟨p1, p2, g1, g3, g2, g4, q⟩
  | ne =>
    have ee : (eqF h r t).map (!·) = some k := e
    obtain ⟨k', e0, rfl⟩ := Option.map_eq_some_iff.mp ee
    rcases eqF_of e0 with ⟨xs, e1, rfl, rfl⟩ | e
    · obtain ⟨a1, vs, rfl, h1, d1⟩ := rw_lst R w1 e1
      obtain ⟨a2, ws, rfl, h2, _, d2⟩ := w2
      cases d2
      exact op_neE hu pins s σ H _ _ v u Q I rx ry ⟨a1, a2, vs, rfl, rfl, h1, SqL.of h2, by rw [← seq_empty d1]; exact q⟩
    · obtain ⟨p1, p2, e1, e2, rfl⟩ := eqR_of e
      obtain ⟨g1, g2⟩ := rvP_ok R w1 e1
      obtain ⟨g3, g4⟩ := rvP_ok R w2 e2
      exact op_neD (by omega) pins s σ H x y v u Q I rx ry ⟨p1, p2, g1, g3, g2, g4, q⟩
  | lt =>
    have e : ltF h r t = some k := e
    unfold ltF at e
    split at e
    · rename_i k' e'
      cases e
      unfold ltV at e'
      split at e'
      · exact lt_at rfl I R 62 X.A (by omega) _ _ k x y v u e' w1 w2 rx ry X.prog X.w _ _ ⟨.bl k, H, I, rfl, q⟩
      · cases e'
    · exact lt_lists rfl I R X.A (by omega) e w1 w2 rx ry X.prog X.w _ _ ⟨.bl k, H, I, rfl, q⟩
  | ge =>
    have e : geF h r t = some k := e
    unfold geF at e
    split at e
    · rename_i d1 d2 _
      exact ge_at rfl I R 62 X.A (by omega) d1 d2 k x y v u e w1 w2 rx ry X.prog X.w _ _ ⟨.bl k, H, I, rfl, q⟩
    · cases e
  | gt =>
    have e : gtF r t = some k := e
    unfold gtF at e
    split at e
    · cases e
      cases rw_int w1; cases rw_int w2
      exact op_gt pins s σ H _ _ v u Q I rx ry ⟨_, _, rfl, rfl, q⟩
    · cases e
      cases rw_str w1; cases rw_str w2
      exact op_gt_str pins s σ H _ _ v u Q I rx ry ⟨_, _, rfl, rfl, by rw [ltT_lt] at q; exact q⟩
    · cases e
  | le =>
    have e : leF r t = some k := e
    unfold leF at e
    split at e
    · cases e
      cases rw_int w1; cases rw_int w2
      exact op_le pins s σ H _ _ v u Q I rx ry ⟨_, _, rfl, rfl, q⟩
    · cases e
      cases rw_str w1; cases rw_str w2
      exact op_le_str pins s σ H _ _ v u Q I rx ry ⟨_, _, rfl, rfl, by rw [ltT_lt] at q; exact q⟩
    · cases e
  | inn =>
    have e : inAny h r t = some k := e
    cases inAny_of e with
    | sign z y' e1 e2 e3 =>
      subst e1 e2 e3
      cases rw_str w1; cases rw_str w2
      exact op_in_sign pins s σ H _ _ v u Q I rx ry ⟨z, st y', rfl, rfl, q⟩
    | dict d n kvs q1 e1 e2 e3 e4 e5 =>
      subst e1 e2 e5
      obtain ⟨a1, ks, rfl, _, g1, g2⟩ := ro_dc R e3 w2
      have hx := rd_key e4 w1
      subst hx
      cases ry
      refine d_in (by omega) I (DGet.rd g1 (k := kI q1)) rx fun s1 I1 => ⟨.bl _, H, I1, rfl, ?_⟩
      have gg := RKs.get q1 g2
      cases z : kvGet kvs q1 with
      | none => rw [z] at q; rw [gg.2 z]; exact q
      | some v1 =>
        obtain ⟨w3, z1, _⟩ := gg.1 v1 z
        rw [z] at q; rw [z1]; exact q
    | data e =>
      obtain ⟨ps, p2, e1, e2, rfl⟩ := inF_of e
      obtain ⟨g1, g2⟩ := rvP_ok R w1 e2
      rcases e1 with e1 | e1
      · obtain ⟨g3, g4⟩ := rvP_ok R w2 e1
        exact op_inD hu pins s σ H x y v u Q I rx ry ⟨p2, ps, g1, g3, g2, g4, q⟩
      · obtain ⟨g3, g4⟩ := rvP_ok R w2 e1
        exact op_inT hu pins s σ H x y v u Q I rx ry ⟨p2, ps, g1, g3, g2, g4, q⟩
  | notin =>
    have ee : (inAny h r t).map (!·) = some k := e
    obtain ⟨k', e0, rfl⟩ := Option.map_eq_some_iff.mp ee
    cases inAny_of e0 with
    | sign z y' e1 e2 e3 =>
      subst e1 e2 e3
      cases rw_str w1; cases rw_str w2
      exact op_notIn_sign pins s σ H _ _ v u Q I rx ry ⟨z, st y', rfl, rfl, q⟩
    | dict d n kvs q1 e1 e2 e3 e4 e5 =>
      subst e1 e2 e5
      obtain ⟨a1, ks, rfl, _, g1, g2⟩ := ro_dc R e3 w2
      have hx := rd_key e4 w1
      subst hx
      cases ry
      refine d_notIn (by omega) I (DGet.rd g1 (k := kI q1)) rx fun s1 I1 => ⟨.bl _, H, I1, rfl, ?_⟩
      have gg := RKs.get q1 g2
      cases z : kvGet kvs q1 with
      | none => rw [z] at q; rw [gg.2 z]; exact q
      | some v1 =>
        obtain ⟨w3, z1, _⟩ := gg.1 v1 z
        rw [z] at q; rw [z1]; exact q
    | data e =>
      obtain ⟨ps, p2, e1, e2, rfl⟩ := inF_of e
      obtain ⟨g1, g2⟩ := rvP_ok R w1 e2
      rcases e1 with e1 | e1
      · obtain ⟨g3, g4⟩ := rvP_ok R w2 e1
        exact op_notInD hu pins s σ H x y v u Q I rx ry ⟨p2, ps, g1, g3, g2, g4, q⟩
      · obtain ⟨g3, g4⟩ := rvP_ok R w2 e1
        exact op_notInT hu pins s σ H x y v u Q I rx ry ⟨p2, ps, g1, g3, g2, g4, q⟩
  | is_ =>
    have e : isF r t = some k := e
    unfold isF at e
    split at e
    · cases e
      cases rw_bl w1; cases rw_bl w2
      exact op_is_bl pins s σ H _ _ v u Q I rx ry ⟨_, _, rfl, rfl, q⟩
    · cases e
  | isnt =>
    have ee : (isF r t).map (!·) = some k := e
    obtain ⟨k', e0, rfl⟩ := Option.map_eq_some_iff.mp ee
    unfold isF at e0
    split at e0
    · cases e0
      cases rw_bl w1; cases rw_bl w2
      exact op_isnot_bl pins s σ H _ _ v u Q I rx ry ⟨_, _, rfl, rfl, q⟩
    · cases e0
end
end MP

/-! MP3s: sorted; count of truths. -/
namespace MP
open PySem PySem.Spec PyProof.Rows L2
theorem insB_perm {α : Type} {le : α → α → Bool} {x : α} : ∀ ys : List α, (insB le x ys).Perm (x :: ys)
  | [] => .refl _
  | y :: ys => by
    unfold insB
    split
    · exact .refl _
    · exact ((insB_perm ys).cons y).trans (List.Perm.swap x y ys)
theorem srtB_perm {α : Type} {le : α → α → Bool} : ∀ xs : List α, (srtB le xs).Perm xs
  | [] => .refl _
  | x :: xs => (insB_perm _).trans ((srtB_perm xs).cons x)
theorem insB_pw {α : Type} {le : α → α → Bool} (tot : ∀ a b, le a b = true ∨ le b a = true) (tr : ∀ a b c, le a b = true → le b c = true → le a c = true) {x : α} :
    ∀ {ys : List α}, ys.Pairwise (fun a b => le a b = true) → (insB le x ys).Pairwise (fun a b => le a b = true)
  | [], _ => List.pairwise_singleton _ _
  | y :: ys, h => by
    obtain ⟨h1, h2⟩ := List.pairwise_cons.mp h
    unfold insB
    split
    · rename_i e
      refine List.pairwise_cons.mpr ⟨fun z m => ?_, h⟩
      rcases List.mem_cons.mp m with q | q
      · rw [q]; exact e
      · exact tr _ _ _ e (h1 z q)
    · rename_i e
      refine List.pairwise_cons.mpr ⟨fun z m => ?_, insB_pw tot tr h2⟩
      rcases List.mem_cons.mp ((insB_perm ys).mem_iff.mp m) with q | q
      · rw [q]
        rcases tot y x with t | t
        · exact t
        · exact absurd t e
      · exact h1 z q
theorem srtB_pw {α : Type} {le : α → α → Bool} (tot : ∀ a b, le a b = true ∨ le b a = true) (tr : ∀ a b c, le a b = true → le b c = true → le a c = true) : ∀ xs : List α, (srtB le xs).Pairwise (fun a b => le a b = true)
  | [] => .nil
  | x :: xs => insB_pw tot tr (srtB_pw tot tr xs)
theorem pw_unique {α : Type} {r : α → α → Prop} (anti : ∀ a b, r a b → r b a → a = b) : ∀ {xs ys : List α}, xs.Perm ys → xs.Pairwise r → ys.Pairwise r → xs = ys
  | [], ys, p, _, _ => by rw [List.nil_perm.mp p]
  | x :: xs, [], p, _, _ => by cases List.perm_nil.mp p
  | x :: xs, y :: ys, p, h, g => by
    obtain ⟨h1, h2⟩ := List.pairwise_cons.mp h
    obtain ⟨g1, g2⟩ := List.pairwise_cons.mp g
    have e : x = y := by
      have mx : x ∈ y :: ys := p.mem_iff.mp List.mem_cons_self
      have my : y ∈ x :: xs := p.mem_iff.mpr List.mem_cons_self
      rcases List.mem_cons.mp mx with z | z
      · exact z
      · rcases List.mem_cons.mp my with w | w
        · exact w.symm
        · exact anti _ _ (h1 y w) (g1 x z)
    subst e
    rw [pw_unique anti ((List.perm_cons x).mp p) h2 g2]
theorem leI_tot (a b : Int) : leI a b = true ∨ leI b a = true := by unfold leI; simp; omega
theorem leI_tr (a b c : Int) (h1 : leI a b = true) (h2 : leI b c = true) : leI a c = true := by
  unfold leI at *
  simp at *
  omega
theorem leT_iff {x y : Tx} : leT x y = true ↔ ¬ y < x := by
  unfold leT
  rw [ltT_lt]
  simp
theorem leT_tot (a b : Tx) : leT a b = true ∨ leT b a = true := by
  rw [leT_iff, leT_iff]
  by_cases h : b < a
  · right
    intro h2
    exact List.lt_irrefl _ (List.lt_trans h h2)
  · exact .inl h
theorem leT_tr (a b c : Tx) (h1 : leT a b = true) (h2 : leT b c = true) : leT a c = true := by
  rw [leT_iff] at *
  have a1 : a ≤ b := h1
  have a2 : b ≤ c := h2
  exact (List.le_trans a1 a2 : a ≤ c)
theorem leT_anti (a b : Tx) (h1 : leT a b = true) (h2 : leT b a = true) : a = b := by
  rw [leT_iff] at *
  have a1 : a ≤ b := h1
  have a2 : b ≤ a := h2
  exact List.le_antisymm a1 a2
theorem int_sorted {is ns : List Int} (p : ns.Perm is) (h : ns.Pairwise (· ≤ ·)) : ns = srtB leI is := by
  refine pw_unique (r := fun a b => leI a b = true) (fun a b h1 h2 => ?_) (p.trans (srtB_perm is).symm) (h.imp fun h => decide_eq_true h) (srtB_pw leI_tot leI_tr is)
  unfold leI at h1 h2
  simp at h1 h2
  omega
theorem rising_pw : ∀ (p : Str) (l : List Str), risingS p l = true → (p :: l).Pairwise fun a b => leT a.cps.toList b.cps.toList = true
  | p, [], _ => List.pairwise_singleton _ _
  | p, x :: r, h => by
    have h : (!ltCps x.cps.toList p.cps.toList && risingS x r) = true := h
    obtain ⟨h1, h2⟩ := Bool.and_eq_true_iff.mp h
    have ih := rising_pw x r h2
    have hx : leT p.cps.toList x.cps.toList = true := by
      rw [leT_iff]
      rw [ltCps_eq] at h1
      simpa using h1
    refine List.pairwise_cons.mpr ⟨fun z m => ?_, ih⟩
    rcases List.mem_cons.mp m with q | q
    · rw [q]; exact hx
    · exact leT_tr _ _ _ hx ((List.pairwise_cons.mp ih).1 z q)
theorem str_sorted {ts : List Tx} {ys : List Str} (p : ys.Perm (ts.map st)) (h : sortedS ys = true) : ys = (srtB leT ts).map st := by
  have pw : ys.Pairwise fun a b => leT a.cps.toList b.cps.toList = true := by
    cases ys with
    | nil => exact .nil
    | cons y ys => exact rising_pw y ys h
  have back : ys = (ys.map fun y => y.cps.toList).map st := by
    rw [List.map_map]
    exact (List.map_id'' (fun y => by cases y; rfl) ys).symm
  have e : ys.map (fun y => y.cps.toList) = srtB leT ts := by
    refine pw_unique (r := fun a b => leT a b = true) leT_anti ?_ (List.pairwise_map.mpr pw) (srtB_pw leT_tot leT_tr ts)
    have := p.map fun y => y.cps.toList
    rw [List.map_map] at this
    have e2 : ts.map ((fun y : Str => y.cps.toList) ∘ st) = ts := List.map_id'' (fun _ => rfl) ts
    rw [e2] at this
    exact this.trans (srtB_perm ts).symm
  rw [back, e]
section
variable {X : Cx} {c : Cn} {ι : List Addr} {H H0 : Hp} {h : Hm} {Q : VK} {W : Nat → Hp → Prop} {r : RV} {x : V}
theorem ints_rds {c : Cn} {ι : List Addr} {H : Hp} : ∀ ns : List Int, RDs c ι H (ns.map .int) (ns.map V.int)
  | [] => .nil
  | n :: ns => .cons (.int n) (ints_rds ns)
theorem strs_rds {c : Cn} {ι : List Addr} {H : Hp} : ∀ ns : List Tx, RDs c ι H (ns.map .str) (ns.map fun z => V.str (st z))
  | [] => .nil
  | n :: ns => .cons (.str n) (strs_rds ns)
theorem keys_ints : ∀ {kvs : List (D × D)} {ks : List (Key × V)} {is : List Int}, RKs c ι H kvs ks → ints? (kvs.map (·.1)) = some is → ks.map (·.1) = is.map Sum.inl
  | _, _, is, .nil, e => by cases e; rfl
  | (d, e) :: kvs, _, is, .cons k _ r, q => by
    obtain ⟨y, ys, h1, h2, rfl⟩ := mapO_cons (show mapO int1? (d :: kvs.map (·.1)) = some is from q)
    cases d with
    | int i =>
      cases h1
      cases k
      rw [List.map_cons, List.map_cons, keys_ints r h2]
      rfl
    | _ => cases h1
theorem keys_strs : ∀ {kvs : List (D × D)} {ks : List (Key × V)} {ts : List Tx}, RKs c ι H kvs ks → strs? (kvs.map (·.1)) = some ts → ks.map (·.1) = (ts.map st).map Sum.inr
  | _, _, is, .nil, e => by cases e; rfl
  | (d, e) :: kvs, _, is, .cons k _ r, q => by
    obtain ⟨y, ys, h1, h2, rfl⟩ := mapO_cons (show mapO str1? (d :: kvs.map (·.1)) = some is from q)
    cases d with
    | str i =>
      cases h1
      cases k
      rw [List.map_cons, List.map_cons, List.map_cons, keys_strs r h2]
      rfl
    | _ => cases h1
theorem mapO_len {α β : Type} {f : α → Option β} : ∀ {xs : List α} {ys : List β}, mapO f xs = some ys → ys.length = xs.length
  | [], ys, e => by cases e; rfl
  | x :: xs, ys, e => by
    obtain ⟨y, zs, _, h2, rfl⟩ := mapO_cons e
    rw [List.length_cons, List.length_cons, mapO_len h2]
abbrev sortsT (us : List Value) : Sem PySem.Fin := newList us >>= fun l => holding [l] (call (.builtin "list.sort") [l] []) >>= fun _ => ret l
theorem sort_int {pins : List (Addr × Obj)} {s : Shared} {σ : L2.St} {us : List Value} {ks : List Int} {E : Value → Shared → Prop} (I : L2.Inv X pins σ H s) (hS : IntsAre us ks) (hl : us.length ≤ sizeLine)
    (q : ∀ (ys : List Int) (p : Addr), ys.Perm ks → ys.Pairwise (· ≤ ·) → H p = none → Q (.ref p) (L2.upd H p (.lst (ys.map V.int)))) :
    wpAny (model X.prog X.w) X.A.in1 (sortsT us) (fun fin s' => ∃ v, fin = .done (.ret v) ∧ EP X pins σ Q v s') E s := by
  refine wpAny_bind (wpAny_newList ?_ hl)
  have ho : (s.heap.push (seqObj "list" us.toArray 0)).get? s.heap.objs.size = some (seqObj "list" us.toArray 0) := Heap.get?_push_size _ rfl
  show wpAny _ _ _ _ _ { s with heap := s.heap.push (seqObj "list" us.toArray 0) }
  refine wpAny_bind (wpAny_holding (wpAny_call_entry PyProof.Rows.slot_list_sort ⟨_, ho, rfl⟩ PyProof.Rows.entry_list_sort
    (PyProof.Rows.list_sort_treeAny (s := { s with heap := s.heap.push (seqObj "list" us.toArray 0) }) ho hS hl fun out ys g1 g2 g3 => ⟨_, rfl, ?_⟩) (PyProof.Rows.args_list_sort _)))
  obtain ⟨e', he'⟩ := PyProof.Rows.sortedHeap_at (vs := us) (out := out) ho
  have hlen : (ys.map V.int).length ≤ sizeLine := by
    rw [List.length_map, g2.length_eq, ← hS.length]; exact hl
  refine wpAny_pure ⟨_, rfl, .ref s.heap.objs.size, L2.upd H s.heap.objs.size (.lst (ys.map V.int)), I.laid (t' := s.toks) (fun b u e => ?_) (Nat.le_refl _)
    (show ObjOk X.prog X.w _ _ _ (.lst (ys.map V.int)) from ⟨hlen, out.toList, e', vals_of_ints g1, by rw [Array.toArray_toList]; exact he'⟩), rfl, q ys _ g2 g3 (I.hok.fresh (Nat.le_refl _))⟩
  have hb : b < s.heap.objs.size := Heap.lt_size e
  rw [PyProof.Rows.sortedHeap_old (Nat.ne_of_lt hb) (by rw [size_push']; exact Nat.lt_succ_of_lt hb)]
  exact Heap.get?_push_of_some _ e
theorem sort_str {pins : List (Addr × Obj)} {s : Shared} {σ : L2.St} {us : List Value} {ks : List Str} {E : Value → Shared → Prop} (I : L2.Inv X pins σ H s) (hS : StrsAre us ks) (hl : us.length ≤ sizeLine)
    (q : ∀ (ys : List Str) (p : Addr), ys.Perm ks → sortedS ys = true → H p = none → Q (.ref p) (L2.upd H p (.lst (ys.map V.str)))) :
    wpAny (model X.prog X.w) X.A.in1 (sortsT us) (fun fin s' => ∃ v, fin = .done (.ret v) ∧ EP X pins σ Q v s') E s := by
  refine wpAny_bind (wpAny_newList ?_ hl)
  have ho : (s.heap.push (seqObj "list" us.toArray 0)).get? s.heap.objs.size = some (seqObj "list" us.toArray 0) := Heap.get?_push_size _ rfl
  show wpAny _ _ _ _ _ { s with heap := s.heap.push (seqObj "list" us.toArray 0) }
  refine wpAny_bind (wpAny_holding (wpAny_call_entry PyProof.Rows.slot_list_sort ⟨_, ho, rfl⟩ PyProof.Rows.entry_list_sort
    (PyProof.Rows.list_sort_treeKAny strKind_oneLt (s := { s with heap := s.heap.push (seqObj "list" us.toArray 0) }) ho hS.keysOf (fun v₁ v₂ rest e => keyKind_strs (by rw [← e]; exact hS)) hl fun st' hp hs => ⟨_, rfl, ?_⟩) (PyProof.Rows.args_list_sort _)))
  obtain ⟨ys, g1, g2, g3⟩ := sorted_out_str hS hp hs
  obtain ⟨e', he'⟩ := PyProof.Rows.sortedHeap_at (vs := us) (out := (arrOf st').map (·.2)) ho
  have hlen : (ys.map V.str).length ≤ sizeLine := by
    rw [List.length_map, g2.length_eq, ← hS.length]; exact hl
  refine wpAny_pure ⟨_, rfl, .ref s.heap.objs.size, L2.upd H s.heap.objs.size (.lst (ys.map V.str)), I.laid (t' := s.toks) (fun b u e => ?_) (Nat.le_refl _)
    (show ObjOk X.prog X.w _ _ _ (.lst (ys.map V.str)) from ⟨hlen, ((arrOf st').map (·.2)).toList, e', vals_of_strs g1, by rw [Array.toArray_toList]; exact he'⟩), rfl, q ys _ g2 g3 (I.hok.fresh (Nat.le_refl _))⟩
  have hb : b < s.heap.objs.size := Heap.lt_size e
  rw [PyProof.Rows.sortedHeap_old (Nat.ne_of_lt hb) (by rw [size_push']; exact Nat.lt_succ_of_lt hb)]
  exact Heap.get?_push_of_some _ e
theorem keysV : ∀ {kvs : List (D × D)} {kz : List (Key × V)}, RKs c ι H kvs kz → RDs c ι H (kvs.map (·.1)) (kz.map fun p => kV p.1)
  | _, _, .nil => .nil
  | (d, _) :: kvs, _, .cons (k := k) h _ r => by
    refine .cons ?_ (keysV r)
    cases d with
    | int i => cases h; exact .int i
    | str x => cases h; exact .str x
    | _ => cases h
theorem vals_at : ∀ {xs : List V} {us : List Value}, us.length = xs.length → (∀ (j : Nat) (x : V) (u : Value), xs[j]? = some x → us[j]? = some u → RelV x u) → Vals xs us := by
  intro xs
  induction xs with
  | nil =>
    intro us l _
    cases us with
    | nil => exact .nil
    | cons _ _ => cases l
  | cons x xs ih =>
    intro us l h
    cases us with
    | nil => cases l
    | cons u us => exact .cons (h 0 x u rfl rfl) (ih (by simpa using l) fun j y w e1 e2 => h (j + 1) y w (by simpa using e1) (by simpa using e2))
/-- what sorted walks -/
theorem items_ok {pins : List (Addr × Obj)} {s : Shared} {σ : L2.St} {kw : List (Str × Value)} {us : List Value} {rv : RV} {v : V} {ds : List D} (hc : X.calm = true) (hK : X.K = c.K) (I : L2.Inv X pins σ H s) (rs : Vals [v] us) (R : RH c ι H h) (w : RW c ι H rv v) (e : itemsK rv h = some ds)
    (ha : ∀ a : Addr, argsOk "sorted" ⟨[.ref a], kw⟩)
    (core : ∀ {s1 : Shared} {us1 : List Value} {xs1 : List V}, L2.Inv X pins σ H s1 → RDs c ι H ds xs1 → Vals xs1 us1 → us1.length ≤ sizeLine → ∀ E, wpAny (model X.prog X.w) X.A.in1 (newList us1 >>= fun l => holding [l] (call (.builtin "list.sort") [l] kw) >>= fun _ => ret l) (fun fin s' => ∃ v, fin = .done (.ret v) ∧ EP X pins σ Q v s') E s1) :
    wpAny (model X.prog X.w) X.A (call (.builtin "sorted") us kw) (EP X pins σ Q) X.xe s := by
  obtain ⟨K0, F0, X0, T0⟩ := c
  obtain rfl : X.K = K0 := hK
  unfold itemsK at e
  split at e
  · rename_i ys e1
    cases e
    obtain ⟨a1, xs, rfl, h1, d1⟩ := rw_lst R w e1
    obtain rfl := rs.ref1
    obtain ⟨its, rvs, ⟨o, n, ho, hcl, hdn, hdt⟩, hz⟩ := I.list h1
    refine PyProof.Rows.call_function_entry_kw PyProof.Rows.kind_sorted PyProof.Rows.plain_sorted PyProof.Rows.entry_sorted (ha _) ?_
    unfold Builtin.«sorted»
    refine wpAny_bind (m := checkCount "sorted" 1 1 _) (wpAny_pure ?_)
    refine wpAny_bind (wpAny_collect_seq a1 (.inl rfl) ho hcl hdt (hsz := by rw [List.size_toArray, ← rvs.length]; exact hz) fun h' hk' => ?_)
    exact core (I.kept (t' := s.toks) hk') d1 rvs (by rw [← rvs.length]; exact hz) _
  · split at e
    · rename_i n _
      have dc : ∀ {kvs : List (D × D)}, Dc h n kvs → ds = kvs.map (·.1) → wpAny (model X.prog X.w) X.A (call (.builtin "sorted") us kw) (EP X pins σ Q) X.xe s := fun {kvs} e2 ed => by
        obtain ⟨a1, kz, rfl, _, g1, g2⟩ := ro_dc R e2 w
        obtain rfl := rs.ref1
        obtain ⟨z, lo, vs, rel, dd⟩ := dk_rd I.hok g1
        obtain ⟨ep, hat⟩ := dd.dictAt
        have hlv : vs.length = ds.length := by rw [ed, List.length_map, g2.length, Paired.length rel]
        have hlz : ds.length = kz.length := by rw [ed, List.length_map, g2.length]
        refine PyProof.Rows.call_function_entry_kw PyProof.Rows.kind_sorted PyProof.Rows.plain_sorted PyProof.Rows.entry_sorted (ha _) ?_
        unfold Builtin.«sorted»
        refine wpAny_bind (m := checkCount "sorted" 1 1 _) (wpAny_pure ?_)
        refine wpAny_bind (PySem.W.kdu_collect (A := X.A.in1) (PySem.W.kdl_dict (knd := mixKind X.prog X.w) (kvs := vs) (ep := ep) lo) (I.ok.hd hc) hat (by omega) fun h' tk acc hk' hacc => ?_)
        have la : acc.toList.length = kz.length := by rw [Array.length_toList, hacc.1, hlv, hlz]
        refine core (xs1 := kz.map fun p => kV p.1) (I.kept (t' := tk) hk') (by rw [ed]; exact keysV g2) (vals_at ?_ fun j x u ex eu => ?_) (by rw [la]; exact z) _
        · rw [List.length_map, la]
        · obtain ⟨k, y, e4, e5⟩ := hacc.2 j u (by rw [← Array.getElem?_toList]; exact eu)
          have e6 : (vs.map (·.1))[j]? = some k := by rw [List.getElem?_map, e4]; rfl
          rw [← rel.keys, List.getElem?_map] at e6
          rw [List.getElem?_map] at ex
          obtain ⟨pz, e7, rfl⟩ := Option.map_eq_some_iff.mp ex
          rw [e7] at e6
          have e8 : pz.1 = k := Option.some.inj e6
          rw [e8]
          rcases keyIs_shape (show keyIs k u = true from e5) with ⟨i, t, rfl, rfl⟩ | ⟨i, t, rfl, rfl⟩
          · exact ⟨t, rfl⟩
          · exact ⟨t, rfl⟩
      split at e
      · cases e; exact dc (.d (by assumption)) rfl
      · cases e; exact dc (.f (by assumption)) rfl
      · cases e
    · cases e
      obtain ⟨a1, xs, rfl, h1, d1⟩ := rw_tup w
      obtain rfl := rs.ref1
      obtain ⟨its, rvs, ⟨o, ho, hcl, n, hdt⟩, hz⟩ := I.tuple h1
      refine PyProof.Rows.call_function_entry_kw PyProof.Rows.kind_sorted PyProof.Rows.plain_sorted PyProof.Rows.entry_sorted (ha _) ?_
      unfold Builtin.«sorted»
      refine wpAny_bind (m := checkCount "sorted" 1 1 _) (wpAny_pure ?_)
      refine wpAny_bind (wpAny_collect_seq a1 (.inr rfl) ho hcl hdt (hsz := by rw [List.size_toArray, ← rvs.length]; exact hz) fun h' hk' => ?_)
      exact core (I.kept (t' := s.toks) hk') d1 rvs (by rw [← rvs.length]; exact hz) _
    · cases e
theorem sorted_ok (hc : X.calm = true) {pins : List (Addr × Obj)} {s : Shared} {σ : L2.St} {xs : List V} {us : List Value} {rv : RV} {ds : List D} (hK : X.K = c.K) (I : L2.Inv X pins σ H s) (rs : Vals xs us) (R : RH c ι H h) (g : ∃ v, xs = [v] ∧ RW c ι H rv v) (e : itemsK rv h = some ds)
    (a : After c ι H (sortedF ds h) (RR c H) Q fun _ _ => False) : wpAny (model X.prog X.w) X.A (call (.builtin "sorted") us) (EP X pins σ Q) X.xe s := by
  obtain ⟨v, rfl, w⟩ := g
  unfold sortedF at a
  split at a
  case isFalse => exact a.elim
  refine items_ok (kw := []) hc hK I rs R w e (fun _ => PyProof.Rows.args_sorted1 _) fun {s1 us1 xs1} I1 d1 v1 l1 E => ?_
  split at a
  · rename_i is ei
    have ev := d1.ints ei
    subst ev
    exact sort_int I1 v1.ints l1 fun ns p pm pw np => by rw [int_sorted pm pw]; exact endN a R np (ints_rds _)
  · split at a
    · rename_i ts et
      have ev := d1.strs et
      have ev2 : xs1 = (ts.map st).map V.str := by rw [ev, List.map_map]; rfl
      subst ev2
      refine sort_str I1 v1.strs l1 fun ys p pm pw np => ?_
      rw [str_sorted pm pw, List.map_map]
      exact endN a R np (strs_rds _)
    · exact a.elim
/-- xs.count(b) of truths -/
def eqb (b : Bool) (v : Value) : Bool := match v with
  | .bool a => a == b
  | _ => false
theorem eqb_count {b : Bool} : ∀ {us : List Value} {bs : List Bool}, Vals (bs.map V.bl) us → us.countP (eqb b) = bs.count b ∧ ∀ y ∈ us, ∃ a, y = .bool a
  | _, [], .nil => ⟨rfl, fun _ m => by cases m⟩
  | _, x :: bs, .cons r t => by
    obtain ⟨h1, h2⟩ := eqb_count (b := b) t
    cases (show _ = Value.bool x from r)
    refine ⟨?_, fun y m => ?_⟩
    · rw [List.countP_cons, List.count_cons, h1]
      rfl
    · rcases List.mem_cons.mp m with z | z
      · exact ⟨x, z⟩
      · exact h2 y z
theorem mt_countB : MtR X "list.count" (fun x xs H Q => ∃ (p : Addr) (bs : List Bool) (b : Bool), x = .ref p ∧ xs = [.bl b] ∧ SqL X.K H p (bs.map V.bl) ∧ Q (.int (bs.count b : Nat)) H) := by
  intro pins s σ H x xs v us Q I rx rxs h
  obtain ⟨p, bs, b, rfl, rfl, hs, q⟩ := h
  cases rx
  obtain ⟨u, rfl, ru⟩ := rxs.one
  cases (show u = Value.bool b from ru)
  obtain ⟨its, rv, ⟨⟨cls, dd, data, sl⟩, n, ho, hc, hdn, hd⟩, hlen⟩ := I.list hs
  simp only at hc hd
  subst hc hd
  obtain ⟨ec, eb⟩ := eqb_count (b := b) rv
  refine call_meets PySem.F.slot_list_count ⟨_, ho, rfl⟩ PySem.F.entry_list_count (PySem.F.args_list_count_2 _ _)
    (SeqAt.list_countAt p its.toArray n dd sl (.bool b) (eqb b)) ⟨ho, fun y hy => ?_, ?_⟩
  · obtain ⟨a, rfl⟩ := eb y (by simpa using hy)
    exact SeqAt.EqAt.bool_bool a b
  · refine ⟨.int (bs.count b : Nat), H, I.tok _, ⟨s.toks, ?_⟩, q⟩
    show Value.int ((its.toArray.toList.countP (eqb b) : Nat) : Int) s.toks = Value.int ((bs.count b : Nat) : Int) s.toks
    rw [show its.toArray.toList = its by simp, ec]
end
end MP

/-! MP3d: subscripts, slices, built-ins, methods, stores by values. -/
namespace MP
open PySem PySem.Spec PyProof.Rows L2
section
variable {X : Cx} {c : Cn} {ι : List Addr} {H H0 : Hp} {h : Hm} {Q : VK} {W : Nat → Hp → Prop} {r : RV} {x : V} {pins : List (Addr × Obj)} {σ : L2.St} {s : Shared}
/-! ### subscripts -/
theorem ixN_eq (n : Nat) (i : Int) : MP.ixN n i = L2.ixN n i := rfl
theorem atI_eq {α : Type} (xs : List α) (i : Int) : MP.atI xs i = L2.atI xs i := by
  unfold MP.atI L2.atI
  rw [ixN_eq]
  cases L2.ixN xs.length i <;> rfl
theorem RDs.atI {ds : List D} {vs : List V} {i : Int} {d : D} (g : RDs c ι H ds vs) (e : MP.atI ds i = some d) : ∃ v, L2.atI vs i = some v ∧ RD c ι H d v := by
  rw [← atI_eq]
  unfold MP.atI at e ⊢
  rw [← g.length]
  cases q : MP.ixN ds.length i with
  | none => rw [q] at e; cases e
  | some j =>
    rw [q] at e
    exact g.get e
theorem trk_of {n : Nat} {xs : List D} (e : h[n]? = some (.lst xs)) : RV.trk? h (.v (.ref n)) = some xs := by
  unfold RV.trk? listAt
  dsimp only
  rw [e]
/-- where a dict is asked for a key that it has -/
theorem ix_dict (hu : X.A.units + 1 < cLine) : IxR X (fun x y H Q => ∃ a v, x = .ref a ∧ DGet H a y (some v) ∧ Q v H) := by
  intro value slice pins s σ H x y v u Q I rx ry hq hs
  obtain ⟨a, w, rfl, g, q⟩ := hq
  cases rx
  have hT := dict_typeIs I g
  unfold subscriptTail
  refine wpAny_bind ?_
  rw [getitemInPython_of_ne hT.not_modules]
  refine wpAny_bind (wpAny_specialOf hT PySem.F.slot_dict_getitem.lookup ?_)
  have fin : wpAny (model X.prog X.w) X.A (subscripted slice false (.ref a) u) (fun r s₃ => wpAny (model X.prog X.w) X.A (letTemporaryGo value (.ref a) r >>= fun _ => pure r) (EP X pins σ Q) X.xe s₃) X.xe s := by
    rw [hs]
    exact wpAny_operating (wpAny_mono (d_getItem hu I g ry (Q := EP X pins σ Q) fun w' s3 I3 rw' => ⟨w, H, I3, rw', q⟩) (fun r s₃ h₃ => wpAny_bind (wpAny_letTemporaryGo (wpAny_pure h₃))) fun _ _ x => x)
  first
    | exact wpAny_pure (wpAny_bind fin)
    | exact wpAny_bind (wpAny_pure (wpAny_bind fin))
    | exact wpAny_bind fin
theorem ix_ok (hK : X.K = c.K) (hu : X.A.units + 65 < cLine) : IxR X (rB c ixF) := by
  intro value slice pins s σ H x y v u Q I rx ry hq hs
  obtain ⟨ι, h, r, t, R, w1, w2, a⟩ := hq
  obtain ⟨K0, F0, X0, T0⟩ := c
  obtain rfl : X.K = K0 := hK
  have asList : ∀ {xs : List D} {i : Int} {d : D} {a1 : Addr} {vs : List V}, x = .ref a1 → SqL X.K H a1 vs → RDs ⟨X.K, F0, X0, T0⟩ ι H xs vs → y = .int i → MP.atI xs i = some d → After ⟨X.K, F0, X0, T0⟩ ι H (ok1 d h) (RR ⟨X.K, F0, X0, T0⟩ H) Q (fun _ _ => False) →
      wpAny (model X.prog X.w) X.A (subscriptTail value slice v u) (EP X pins σ Q) X.xe s := fun {xs i d a1 vs} e1 h1 d1 e2 e3 a => by
    subst e1 e2
    obtain ⟨v1, q1, g1⟩ := d1.atI e3
    exact ix_list value slice pins s σ H _ _ v u Q I rx ry ⟨a1, vs, i, v1, rfl, rfl, h1, q1, end1 a R g1⟩ hs
  unfold ixF at a
  split at a
  · split at a
    · rename_i kvs e1
      split at a
      · rename_i k e2
        split at a
        · rename_i d e3
          obtain ⟨a1, ks, rfl, _, g1, g2⟩ := ro_dc R (.d e1) w1
          have hy := rd_key e2 w2
          subst hy
          obtain ⟨w3, z1, z2⟩ := (RKs.get k g2).1 d e3
          exact ix_dict (by omega) value slice pins s σ H _ _ v u Q I rx ry ⟨a1, w3, rfl, by rw [← z1]; exact DGet.rd g1, end1 a R z2⟩ hs
        · exact a.elim
      · exact a.elim
    · rename_i kvs e1
      split at a
      · rename_i k e2
        split at a
        · rename_i d e3
          obtain ⟨a1, ks, rfl, _, g1, g2⟩ := ro_dc R (.f e1) w1
          have hy := rd_key e2 w2
          subst hy
          obtain ⟨w3, z1, z2⟩ := (RKs.get k g2).1 d e3
          exact ix_dict (by omega) value slice pins s σ H _ _ v u Q I rx ry ⟨a1, w3, rfl, by rw [← z1]; exact DGet.rd g1, end1 a R z2⟩ hs
        · exact a.elim
      · exact a.elim
    · rename_i xs e1
      split at a
      · split at a
        · rename_i d e3
          obtain ⟨a1, vs, rfl, h1, d1⟩ := rw_trk R w1 (trk_of e1)
          exact asList rfl (SqL.of h1) d1 (rw_int w2) e3 a
        · exact a.elim
      · exact a.elim
    · exact a.elim
  · split at a
    · rename_i d e3
      obtain ⟨a1, vs, rfl, h1, _, d1⟩ := w1
      exact asList rfl (SqL.of h1) d1 (rw_int w2) e3 a
    · exact a.elim
  · split at a
    · rename_i d e3
      obtain ⟨a1, vs, rfl, h1, d1⟩ := rw_lst R w1 rfl
      exact asList rfl h1 d1 (rw_int w2) e3 a
    · exact a.elim
  · split at a
    · rename_i d e3
      obtain ⟨a1, vs, rfl, h1, d1⟩ := rw_tup w1
      cases rw_int w2
      obtain ⟨v1, q1, g1⟩ := d1.atI e3
      exact ix_tup value slice pins s σ H _ _ v u Q I rx ry ⟨a1, vs, _, v1, rfl, rfl, h1, q1, end1 a R g1⟩ hs
    · exact a.elim
  · split at a
    · rename_i hl
      split at a
      · rename_i z e3
        cases rw_str w1; cases rw_int w2
        rw [atI_eq] at e3
        refine ix_str value slice pins s σ H _ _ v u Q I rx ry ⟨_, _, z, rfl, rfl, ?_, ?_, end1 a R (.str [z])⟩ hs
        · rw [sl_eq]; show Array.size _ ≤ _; simpa using hl
        · simpa using e3
      · exact a.elim
    · exact a.elim
  · exact a.elim
/-! ### slices -/
theorem sIx_eq (n d : Nat) (o : Option Int) : MP.sIx n d o = HT.sIx n d o := by
  cases o with
  | none => rfl
  | some v => rfl
theorem cut_eq (vs : List V) (lo hi : Option Int) : MP.cut vs lo hi = cutV vs lo hi := by
  unfold MP.cut cutV
  rw [sIx_eq, sIx_eq]
def rSl (c : Cn) : V → Option Int → Option Int → Hp → VK → Prop := fun x lo hi H Q => ∃ ι h r, RH c ι H h ∧ RW c ι H r x ∧ After c ι H (slF r lo hi h) (RR c H) Q (fun _ _ => False)
theorem sl_ok (hK : X.K = c.K) : SlR X (rSl c) := by
  intro pins s σ H x v vl vu lo hi sl Q I rx hs pl pu hq
  obtain ⟨ι, h, r, R, w1, a⟩ := hq
  obtain ⟨K0, F0, X0, T0⟩ := c
  obtain rfl : X.K = K0 := hK
  unfold slF at a
  split at a
  · split at a
    · rename_i z hl
      cases rw_str w1
      refine sl_str pins s σ H _ v vl vu lo hi sl Q I rx hs pl pu ⟨_, rfl, ?_, ?_⟩
      · rw [sl_eq]; show Array.size _ ≤ _; simpa using hl
      · have e : cutS (st z) lo hi = st (MP.cut z lo hi) := by
          unfold cutS MP.cut
          have hl2 : (st z).length = z.length := by show Array.size _ = _; simp
          rw [hl2, sIx_eq, sIx_eq]
        rw [e]
        exact end1 a R (.str _)
    · exact a.elim
  · rename_i xs
    obtain ⟨a1, vs, rfl, h1, d1⟩ := rw_tup w1
    refine sl_tupA pins s σ H _ v vl vu lo hi sl Q I rx hs pl pu ⟨a1, vs, rfl, h1, fun e => ?_, fun _ p n => ?_⟩
    · have e2 : MP.cut xs lo hi = xs := by
        unfold MP.cut
        rw [sIx_eq, sIx_eq, d1.length, e.1, e.2, ← d1.length]
        simp
      rw [e2] at a
      exact end1 a R (.tup h1 d1)
    · rw [← cut_eq]
      exact endT a R n (d1.cut lo hi)
  · split at a
    · rename_i xs e1
      obtain ⟨a1, vs, rfl, h1, d1⟩ := rw_lst R w1 e1
      refine sl_list pins s σ H _ v vl vu lo hi sl Q I rx hs pl pu ⟨a1, vs, rfl, h1, fun p n => ?_⟩
      rw [← cut_eq]
      exact endN a R n (d1.cut lo hi)
    · exact a.elim

/-! ### built-ins -/
def rC (c : Cn) (g : List RV → Hm → Res RV) : List V → Hp → VK → Prop := fun vs H Q => ∃ ι h rs H0, RH c ι H h ∧ RRs c H0 ι H rs vs ∧ After c ι H (g rs h) (RR c H) Q (fun _ _ => False)
theorem rrs0 {vs : List V} (g : RRs c H0 ι H [] vs) : vs = [] := by
  cases g
  rfl
theorem rrs1 {r : RV} {vs : List V} (g : RRs c H0 ι H [r] vs) : ∃ v, vs = [v] ∧ RW c ι H r v := by
  cases g with
  | cons x y _ => cases y; exact ⟨_, rfl, x.w⟩
theorem rrs2 {r t : RV} {vs : List V} (g : RRs c H0 ι H [r, t] vs) : ∃ v w, vs = [v, w] ∧ RW c ι H r v ∧ RW c ι H t w := by
  cases g with
  | cons x y _ =>
    obtain ⟨w, rfl, h2⟩ := rrs1 y
    exact ⟨_, w, rfl, x.w, h2⟩
theorem maxI_mem : ∀ (i : Int) (is : List Int), maxI (i :: is) ∈ i :: is ∧ ∀ j ∈ i :: is, j ≤ maxI (i :: is)
  | i, [] => ⟨by simp [maxI], fun j m => by simp at m; subst m; simp [maxI]⟩
  | i, k :: is => by
    obtain ⟨h1, h2⟩ := maxI_mem k is
    have e : maxI (i :: k :: is) = max i (maxI (k :: is)) := rfl
    rw [e]
    refine ⟨?_, fun j m => ?_⟩
    · by_cases q : i ≤ maxI (k :: is)
      · rw [Int.max_eq_right q]; exact List.mem_cons_of_mem _ h1
      · rw [Int.max_eq_left (by omega)]; exact List.mem_cons_self
    · rcases List.mem_cons.mp m with m | m
      · subst m; omega
      · have := h2 j m; omega
theorem minI_mem : ∀ (i : Int) (is : List Int), minI (i :: is) ∈ i :: is ∧ ∀ j ∈ i :: is, minI (i :: is) ≤ j
  | i, [] => ⟨by simp [minI], fun j m => by simp at m; subst m; simp [minI]⟩
  | i, k :: is => by
    obtain ⟨h1, h2⟩ := minI_mem k is
    have e : minI (i :: k :: is) = min i (minI (k :: is)) := rfl
    rw [e]
    refine ⟨?_, fun j m => ?_⟩
    · by_cases q : i ≤ minI (k :: is)
      · rw [Int.min_eq_left q]; exact List.mem_cons_self
      · rw [Int.min_eq_right (by omega)]; exact List.mem_cons_of_mem _ h1
    · rcases List.mem_cons.mp m with m | m
      · subst m; omega
      · have := h2 j m; omega
def Blt.val : Blt → Value
  | .len => .builtin "len" | .list => .type "list" | .tuple => .type "tuple" | .dict => .type "dict" | .int => .type "int" | .str => .type "str" | .abs => .builtin "abs" | .max => .builtin "max" | .min => .builtin "min"
  | .sum => .builtin "sum" | .sorted => .builtin "sorted" | .all => .builtin "all" | .any => .builtin "any" | .set => .type "set" | .repr => .builtin "repr"
theorem RKs.put {k : Sum Int Tx} {d e : D} {v : V} (he : RD c ι H e v) (hk : key1 d = some k) : ∀ {kvs : List (D × D)} {ks : List (Key × V)}, RKs c ι H kvs ks → (ks.map (·.1)).Nodup → RKs c ι H (kvPut kvs d e k) (putK ks (kI k) v)
  | _, _, .nil, _ => by
    show RKs c ι H [(d, e)] [(kI k, v)]
    exact .cons hk he .nil
  | (d2, e2) :: r, (_, w) :: s, .cons (k := k2) h g t, nd => by
    rw [List.map_cons, List.nodup_cons] at nd
    unfold kvPut
    by_cases q : k2 = k
    · subst q
      rw [if_pos (show key? d2 = some k2 from h)]
      have e1 : putK ((kI k2, w) :: s) (kI k2) v = (kI k2, v) :: s := by
        unfold putK
        rw [if_pos (by simp)]
        rw [List.map_cons, if_pos rfl]
        congr 1
        conv => rhs; rw [← List.map_id s]
        apply List.map_congr_left
        intro p hp
        rw [if_neg (fun (z : p.1 = kI k2) => nd.1 (by
          show kI k2 ∈ _
          rw [← z]
          exact List.mem_map_of_mem hp))]
        rfl
      rw [e1]
      exact .cons h he t
    · rw [if_neg (show ¬ key? d2 = some k from fun z => q (Option.some.inj ((show key? d2 = some k2 from h).symm.trans z)))]
      have nk : ¬ kI k2 = kI k := fun z => q (kI_inj z)
      have e1 : putK ((kI k2, w) :: s) (kI k) v = (kI k2, w) :: putK s (kI k) v := by
        unfold putK
        rw [List.any_cons, decide_eq_false (show ¬ (kI k2, w).1 = kI k from nk), Bool.false_or]
        split
        · rw [List.map_cons, if_neg (show ¬ (kI k2, w).1 = kI k from nk)]
        · rfl
      rw [e1]
      exact .cons h g (RKs.put he hk t nd.2)
theorem nd_put {κ : Type} [DecidableEq κ] {k : κ} {v : V} : ∀ {kvs : List (κ × V)}, (kvs.map (·.1)).Nodup → ((putK kvs k v).map (·.1)).Nodup := by
  intro kvs nd
  unfold putK
  split
  · rw [List.map_map]
    have e : ((fun x : κ × V => x.1) ∘ fun kv : κ × V => if kv.1 = k then (k, v) else kv) = fun kv => kv.1 := by
      funext kv
      show (if kv.1 = k then (k, v) else kv).1 = kv.1
      split
      · rename_i q; exact q.symm
      · rfl
    first
      | rw [e]; exact nd
      | (refine (List.map_congr_left (g := fun kv : κ × V => kv.1) fun kv _ => ?_) ▸ nd
         show _ = kv.1
         simp only [Function.comp]
         split <;> first | rfl | (rename_i q; exact q.symm))
  · rename_i q
    rw [List.map_append, List.nodup_append]
    refine ⟨nd, by simp, fun a ha b hb => ?_⟩
    simp at hb
    subst hb
    intro z
    subst z
    obtain ⟨p, hp, rfl⟩ := List.mem_map.mp ha
    exact q (List.any_eq_true.mpr ⟨p, hp, by simp⟩)
/-- the pairs of a list, and what the layer has there -/
theorem pairs_rd {c : Cn} {ι : List Addr} {H : Hp} : ∀ {xs : List D} {vs : List V} {kvs : List (D × D)}, mapO pair1 xs = some kvs → RDs c ι H xs vs → ∃ (ps : List Addr) (ks : List (Key × V)), vs = ps.map V.ref ∧ Paired (fun p kv => SqT c.K H p [kV kv.1, kv.2]) ps ks ∧ RKs c ι H kvs ks
  | [], _, _, e, .nil => by cases e; exact ⟨[], [], rfl, .nil, .nil⟩
  | d :: xs, _, _, e, .cons g gs => by
    obtain ⟨p, kvs, h1, h2, rfl⟩ := mapO_cons e
    unfold pair1 at h1
    split at h1
    · rename_i k v
      obtain ⟨q, hq, rfl⟩ := Option.map_eq_some_iff.mp h1
      obtain ⟨a, vs2, rfl, ht, hv⟩ := rw_tup (show RW c ι H (.v (.tup [k, v])) _ from g)
      cases hv with
      | cons gk gr =>
        cases gr with
        | cons gv gn =>
          cases gn
          have ek := rd_key hq gk
          subst ek
          obtain ⟨ps, ks, rfl, pr, rk⟩ := pairs_rd h2 gs
          exact ⟨a :: ps, (kI q, _) :: ks, rfl, .cons ht pr, .cons hq gv rk⟩
    · cases h1
theorem merge_rd {c : Cn} {ι : List Addr} {H : Hp} : ∀ {kvs acc : List (D × D)} {ks kacc : List (Key × V)}, RKs c ι H kvs ks → RKs c ι H acc kacc → (kacc.map (·.1)).Nodup → RKs c ι H (mergeD acc kvs) (mergeK kacc ks)
  | _, _, _, _, .nil, r, _ => r
  | (d, e) :: kvs, acc, _, kacc, .cons (k := q) (v := v) (s := s) hk g t, r, nd => by
    rw [mergeD, show key1 (d, e).1 = some q from hk]
    have z := merge_rd t (RKs.put g hk r nd) (nd_put (v := v) nd)
    exact z
theorem st_numT (i : Int) : st (numT i) = Str.ofString (toString i) := by
  unfold numT
  show (⟨(Str.ofString (toString i)).cps.toList.toArray⟩ : Str) = _
  rw [Array.toArray_toList]
theorem call_str_int : CallR X (.type "str") (fun xs H Q => ∃ i, xs = [.int i] ∧ i.natAbs.log2 < 1920 ∧ Q (.str (st (numT i))) H) := by
  intro pins s σ H xs us Q I r h
  obtain ⟨i, rfl, hz, q⟩ := h
  obtain ⟨u, rfl, t, rfl⟩ := vals1 r
  rw [st_numT] at q
  exact PySem.P.str_of_int hz ⟨.str _, H, I.tok _, ⟨_, rfl⟩, q⟩
theorem call_str_bl : CallR X (.type "str") (fun xs H Q => ∃ b, xs = [.bl b] ∧ Q (.str (st (if b then [84, 114, 117, 101] else [70, 97, 108, 115, 101]))) H) := by
  intro pins s σ H xs us Q I r h
  obtain ⟨b, rfl, q⟩ := h
  obtain ⟨u, rfl, z⟩ := vals1 r
  cases z
  refine PySem.P.str_of_bool ⟨.str _, H, I.tok _, ⟨_, rfl⟩, ?_⟩
  have e : (if b = true then ("True" : Str) else "False") = st (if b then [84, 114, 117, 101] else [70, 97, 108, 115, 101]) := by cases b <;> rfl
  rw [e]
  exact q
theorem call_str_str : CallR X (.type "str") (fun xs H Q => ∃ a, xs = [.str a] ∧ Q (.str a) H) := by
  intro pins s σ H xs us Q I r h
  obtain ⟨a, rfl, q⟩ := h
  obtain ⟨u, rfl, t, rfl⟩ := vals1 r
  exact PySem.P.str_of_str ⟨.str a, H, I, ⟨t, rfl⟩, q⟩
theorem len_dict : CallR X (.builtin "len") (fun xs H Q => ∃ (a : Addr) (ks : List (Key × V)), xs = [.ref a] ∧ Rd H a (.dK ks) ∧ Q (.int ks.length) H) := by
  intro pins s σ H xs us Q I rs hq
  obtain ⟨a, ks, rfl, h1, q⟩ := hq
  obtain rfl := rs.ref1
  exact d_len I h1 fun t s1 I1 => ⟨.int ks.length, H, I1, ⟨t, rfl⟩, q⟩
theorem blt_ok (hK : X.K = c.K) (hc : X.calm = true) (b : Blt) : CallR X b.val (rC c (bltF b)) := by
  intro pins s σ H xs us Q I rs hq
  obtain ⟨ι, h, rvs, H0, R, g, a⟩ := hq
  obtain ⟨K0, F0, X0, T0⟩ := c
  obtain rfl : X.K = K0 := hK
  unfold bltF at a
  split at a
  · -- len
    obtain ⟨v, rfl, w⟩ := rrs1 g
    split at a
    · split at a
      · rename_i z hl
        cases rw_str w
        refine call_len pins s σ H _ us Q I rs ⟨_, z.length, rfl, ⟨?_, ?_⟩, end1 a R (.int _)⟩
        · rw [sl_eq]; show Array.size _ ≤ _; simpa using hl
        · show _ = Array.size _; simp
      · exact a.elim
    · split at a
      · rename_i ys e1
        obtain ⟨a1, vs, rfl, h1, d1⟩ := rw_seq R w e1
        refine call_len_seq pins s σ H _ us Q I rs ⟨a1, vs, rfl, h1, ?_⟩
        rw [← d1.length]
        exact end1 a R (.int _)
      · split at a
        · split at a
          · rename_i kvs e1
            obtain ⟨a1, ks, rfl, _, g1, g2⟩ := ro_dc R (.d e1) w
            refine len_dict pins s σ H _ us Q I rs ⟨a1, ks, rfl, g1, ?_⟩
            rw [← g2.length]
            exact end1 a R (.int _)
          · rename_i kvs e1
            obtain ⟨a1, ks, rfl, _, g1, g2⟩ := ro_dc R (.f e1) w
            refine len_dict pins s σ H _ us Q I rs ⟨a1, ks, rfl, g1, ?_⟩
            rw [← g2.length]
            exact end1 a R (.int _)
          · exact a.elim
        · exact a.elim
  · -- list
    obtain ⟨v, rfl, w⟩ := rrs1 g
    split at a
    · rename_i ys e1
      obtain ⟨a1, vs, rfl, h1, d1⟩ := rw_seq R w e1
      exact call_list_of pins s σ H _ us Q I rs ⟨a1, vs, rfl, h1, fun p n => endN a R n d1⟩
    · exact a.elim
  · -- tuple
    obtain ⟨v, rfl, w⟩ := rrs1 g
    split at a
    · rename_i ys e1
      obtain ⟨a1, vs, rfl, h1, d1⟩ := rw_seq R w e1
      refine call_tuple_of pins s σ H _ us Q I rs ⟨a1, vs, rfl, ?_⟩
      rcases h1 with h1 | h1
      · exact .inl ⟨h1, fun p n => endT a R n d1⟩
      · exact .inr ⟨h1, end1 a R (.tup h1 d1)⟩
    · exact a.elim
  · obtain ⟨v, rfl, w⟩ := rrs1 g
    cases rw_bl w
    exact call_int1 pins s σ H _ us Q I rs (.inr ⟨_, rfl, end1 a R (.int _)⟩)
  · obtain ⟨v, rfl, w⟩ := rrs1 g
    cases rw_int w
    exact call_int1 pins s σ H _ us Q I rs (.inl ⟨_, rfl, end1 a R (.int _)⟩)
  · obtain ⟨v, rfl, w⟩ := rrs1 g
    split at a
    · rename_i hl
      split at a
      · rename_i n e
        cases rw_str w
        exact call_int_str pins s σ H _ us Q I rs ⟨_, n, rfl, e, (by show (List.toArray _).size ≤ 640; rw [List.size_toArray]; exact hl), end1 a R (.int _)⟩
      · exact a.elim
    · exact a.elim
  · obtain ⟨v, rfl, w⟩ := rrs1 g
    split at a
    · rename_i hl
      cases rw_int w
      exact call_str_int pins s σ H _ us Q I rs ⟨_, rfl, hl, end1 a R (.str _)⟩
    · exact a.elim
  · obtain ⟨v, rfl, w⟩ := rrs1 g
    cases rw_bl w
    exact call_str_bl pins s σ H _ us Q I rs ⟨_, rfl, end1 a R (.str _)⟩
  · obtain ⟨v, rfl, w⟩ := rrs1 g
    cases rw_str w
    exact call_str_str pins s σ H _ us Q I rs ⟨_, rfl, end1 a R (.str _)⟩
  · obtain ⟨v, rfl, w⟩ := rrs1 g
    cases rw_int w
    rename_i i
    refine call_abs pins s σ H _ us Q I rs ⟨_, rfl, ?_⟩
    rw [show (if i < 0 then -i else i) = ((i.natAbs : Nat) : Int) by split <;> omega]
    exact end1 a R (.int _)
  · obtain ⟨v, v2, rfl, w, w2⟩ := rrs2 g
    cases rw_int w; cases rw_int w2
    rename_i i j
    refine call_max2 hc pins s σ H _ us Q I rs ⟨_, _, rfl, ?_⟩
    rw [show (if j > i then j else i) = max i j by split <;> omega]
    exact end1 a R (.int _)
  · obtain ⟨v, v2, rfl, w, w2⟩ := rrs2 g
    cases rw_int w; cases rw_int w2
    rename_i i j
    refine call_min2 hc pins s σ H _ us Q I rs ⟨_, _, rfl, ?_⟩
    rw [show (if j < i then j else i) = min i j by split <;> omega]
    exact end1 a R (.int _)
  · obtain ⟨v, rfl, w⟩ := rrs1 g
    split at a
    · rename_i ys e1
      split at a
      · rename_i i is e2
        obtain ⟨a1, vs, rfl, h1, d1⟩ := rw_lst R w e1
        have ev := d1.ints e2
        subst ev
        obtain ⟨m1, m2⟩ := maxI_mem i is
        refine cr_max hc pins s σ H _ us Q I rs ⟨a1, i :: is, rfl, h1, by simp, fun m hm hb => ?_⟩
        have e3 : m = maxI (i :: is) := Int.le_antisymm (m2 m hm) (hb _ m1)
        rw [e3]
        exact end1 a R (.int _)
      · exact a.elim
    · exact a.elim
  · obtain ⟨v, rfl, w⟩ := rrs1 g
    split at a
    · rename_i ys e1
      split at a
      · rename_i i is e2
        obtain ⟨a1, vs, rfl, h1, d1⟩ := rw_lst R w e1
        have ev := d1.ints e2
        subst ev
        obtain ⟨m1, m2⟩ := minI_mem i is
        refine cr_min hc pins s σ H _ us Q I rs ⟨a1, i :: is, rfl, h1, by simp, fun m hm hb => ?_⟩
        have e3 : m = minI (i :: is) := Int.le_antisymm (hb _ m1) (m2 m hm)
        rw [e3]
        exact end1 a R (.int _)
      · exact a.elim
    · exact a.elim
  · obtain ⟨v, rfl, w⟩ := rrs1 g
    split at a
    · rename_i ys e1
      split at a
      · rename_i is e2
        obtain ⟨a1, vs, rfl, h1, d1⟩ := rw_lst R w e1
        have ev := d1.ints e2
        subst ev
        exact cr_sum hc pins s σ H _ us Q I rs ⟨a1, is, rfl, h1, end1 a R (.int _)⟩
      · exact a.elim
    · exact a.elim
  · obtain ⟨v, rfl, w⟩ := rrs1 g
    split at a
    · rename_i ys e1
      split at a
      · rename_i is e2
        obtain ⟨a1, vs, rfl, h1, d1⟩ := rw_lst R w e1
        have ev := d1.bls e2
        subst ev
        exact cr_all hc pins s σ H _ us Q I rs ⟨a1, is, rfl, h1, end1 a R (.bl _)⟩
      · exact a.elim
    · exact a.elim
  · obtain ⟨v, rfl, w⟩ := rrs1 g
    split at a
    · rename_i ys e1
      split at a
      · rename_i is e2
        obtain ⟨a1, vs, rfl, h1, d1⟩ := rw_lst R w e1
        have ev := d1.bls e2
        subst ev
        exact cr_any hc pins s σ H _ us Q I rs ⟨a1, is, rfl, h1, end1 a R (.bl _)⟩
      · exact a.elim
    · exact a.elim
  · obtain ⟨v, rfl, w⟩ := rrs1 g
    split at a
    · rename_i ys e1
      split at a
      · rename_i kvs e2
        obtain ⟨a1, vs, rfl, h1, d1⟩ := rw_lst R w e1
        obtain ⟨ps, ks, rfl, pr, rk⟩ := pairs_rd e2 d1
        refine call_dictP hc pins s σ H _ us Q I rs ⟨a1, ps, ks, rfl, h1, pr, fun p np => ?_⟩
        have rm := merge_rd rk .nil (by simp)
        exact a (ι ++ [p]) _ (.ref p) ((Stp.upd np).box (R := R.upd np) (R.notIn np) np) ((R.upd np).box (R.notIn np) ⟨_, upd_same, (rm.mono (Stp.upd np))⟩) (.ref (by rw [List.getElem?_append_right (by rw [R.len]; exact Nat.le_refl _), R.len, Nat.sub_self]; rfl))
      · exact a.elim
    · exact a.elim
  · split at a
    · rename_i ds e1
      exact sorted_ok (c := ⟨X.K, F0, X0, T0⟩) hc rfl I rs R (rrs1 g) e1 a
    · exact a.elim
  · exact a.elim

/-! ### methods -/
def Mth.ty : Mth → String
  | .append | .extend | .pop | .insert | .remove | .count => "list"
  | .get | .items | .values => "dict"
  | .index => "list"
  | .join | .split | .lower | .upper | .partition => "str"
def Mth.id : Mth → String
  | .append => "list.append" | .extend => "list.extend" | .pop => "list.pop" | .insert => "list.insert" | .remove => "list.remove" | .count => "list.count"
  | .get => "dict.get" | .items => "dict.items" | .values => "dict.values" | .index => "list.index"
  | .join => "str.join" | .split => "str.split" | .lower => "str.lower" | .upper => "str.upper" | .partition => "str.partition"
def rM (c : Cn) (g : RV → List RV → Hm → Res RV) : V → List V → Hp → VK → Prop := fun x vs H Q => ∃ ι h r rs H0, RH c ι H h ∧ RW c ι H r x ∧ RRs c H0 ι H rs vs ∧ After c ι H (g r rs h) (RR c H) Q (fun _ _ => False)
theorem call_dget (hu : X.A.units + 65 < cLine) : MtR X "dict.get" (fun x vs H Q => ∃ a y d o, x = .ref a ∧ vs = [y, d] ∧ DGet H a y o ∧ Q (o.getD d) H) := by
  intro pins s σ H x vs v us Q I rx rs hq
  obtain ⟨a, y, d, o, rfl, rfl, g, q⟩ := hq
  cases rx
  obtain ⟨u1, u2, rfl, r1, r2⟩ := rs.two
  exact d_get2 (by omega) I g r1 r2 fun w' s1 I1 rw' => ⟨_, H, I1, rw', q⟩
theorem isDic_some {r : RV} {h : Hm} (e : isDic r h = true) : ∃ n kvs, r = .v (.ref n) ∧ h[n]? = some (.dic kvs) := by
  unfold isDic at e
  split at e
  · split at e
    · exact ⟨_, _, rfl, by assumption⟩
    · cases e
  · cases e
theorem isStr_some {r : RV} (e : isStr r = true) : ∃ z, r = .v (.str z) := by
  unfold isStr at e
  split at e
  · exact ⟨_, rfl⟩
  · cases e
/-- the receiver's type is known where the step is good -/
theorem mth_ty (m : Mth) {x : V} (R : RH c ι H h) (w : RW c ι H r x) (e : mthTy m r h = true) : tyV c.K m.ty x H := by
  have lst : (r.lst? h).isSome = true → tyV c.K "list" x H := fun e => by
    obtain ⟨xs, q⟩ := Option.isSome_iff_exists.mp e
    obtain ⟨a1, vs, rfl, h1, d1⟩ := rw_lst R w q
    exact .inl ⟨rfl, vs, h1⟩
  have dic : isDic r h = true → tyV c.K "dict" x H := fun e => by
    obtain ⟨n, kvs, rfl, q⟩ := isDic_some e
    obtain ⟨a1, ks, rfl, _, g1, g2⟩ := ro_dic R q w
    exact .inr (.inr (.inl ⟨rfl, .inl ⟨ks, g1⟩⟩))
  have str : isStr r = true → tyV c.K "str" x H := fun e => by
    obtain ⟨z, rfl⟩ := isStr_some e
    cases rw_str w
    exact (rfl : "str" = "str")
  unfold mthTy at e
  cases m <;> first | exact lst e | exact dic e | exact str e
theorem After.notBad {α β : Type} {r : Res α} {Rel : List Addr → Hp → α → β → Prop} {Q : β → Hp → Prop} (a : After c ι H r Rel Q W) : r ≠ .bad := fun e => by
  rw [e] at a
  exact a
theorem strs_vals {ι : List Addr} {H : Hp} : ∀ {ds : List D} {vs : List V} {ts : List Tx}, RDs c ι H ds vs → strs? ds = some ts → vs = (ts.map st).map V.str
  | _, _, _, .nil, e => by
    have e : some ([] : List Tx) = some _ := e
    cases e; rfl
  | d :: ds, _, _, .cons h r, e => by
    have e : mapO str1? (d :: ds) = some _ := e
    rw [mapO] at e
    split at e
    · rename_i x xs e1 e2
      cases e
      have := strs_vals r e2
      cases d with
      | str y =>
        cases e1
        cases h
        rw [List.map_cons, List.map_cons, this]
      | _ => cases e1
    · cases e
theorem join_st (sep : Tx) : ∀ ts : List Tx, Txt.join (st sep) (ts.map st) = st (joinT sep ts)
  | [] => rfl
  | x :: r => by
    have key : ∀ (r : List Tx) (acc : Tx), (r.map st).foldl (fun (acc : Array Nat) p => acc ++ (st sep).cps ++ p.cps) acc.toArray = (r.foldl (fun acc p => acc ++ sep ++ p) acc).toArray := fun r => by
      induction r with
      | nil => intro acc; rfl
      | cons y r ih =>
        intro acc
        rw [List.map_cons, List.foldl_cons, List.foldl_cons]
        have : acc.toArray ++ (st sep).cps ++ (st y).cps = (acc ++ sep ++ y).toArray := by
          show acc.toArray ++ sep.toArray ++ y.toArray = _
          simp
        rw [this]
        exact ih _
    show (⟨_⟩ : Str) = ⟨_⟩
    congr 1
    exact key r x
theorem mth_ok (hK : X.K = c.K) (hu : X.A.units + 65 < cLine) (m : Mth) : MtR X m.id (rM c (mthF m)) := by
  intro pins s σ H x vs v us Q I rx rs hq
  obtain ⟨ι, h, r, rvs, H0, R, w, g, a⟩ := hq
  obtain ⟨K0, F0, X0, T0⟩ := c
  obtain rfl : X.K = K0 := hK
  unfold mthF at a
  split at a
  · rename_i n rv
    split at a
    · rename_i xs e1
      split at a
      · split at a
        · rename_i d hl
          obtain ⟨y, rfl, wy⟩ := rrs1 g
          obtain ⟨a1, rfl, e2⟩ := rw_ref w
          obtain ⟨ws, h1, d1⟩ := R.obj n _ a1 e1 e2
          exact mt_append pins s σ H _ _ v us Q I rx rs ⟨a1, ws, y, rfl, rfl, h1, by rw [← d1.length, sl_eq]; exact hl, endW a R e2 h1 (d1.append (.one wy)) .non⟩
        · exact a.elim
      · exact a.elim
    · exact a.elim
  · rename_i n rv
    split at a
    · rename_i xs ys e1 e3
      split at a
      · rename_i hl
        obtain ⟨y, rfl, wy⟩ := rrs1 g
        obtain ⟨a1, rfl, e2⟩ := rw_ref w
        obtain ⟨ws, h1, d1⟩ := R.obj n _ a1 e1 e2
        obtain ⟨b, zs, rfl, h2, d2⟩ := rw_trk R wy e3
        exact mt_extend pins s σ H _ _ v us Q I rx rs ⟨a1, b, ws, zs, rfl, rfl, h1, h2, by rw [← d1.length, ← d2.length, sl_eq]; exact hl, endW a R e2 h1 (d1.append d2) .non⟩
      · exact a.elim
    · exact a.elim
  · rename_i n
    split at a
    · rename_i xs e1
      split at a
      · rename_i d e3
        obtain ⟨a1, rfl, e2⟩ := rw_ref w
        obtain ⟨ws, h1, d1⟩ := R.obj n _ a1 e1 e2
        have hvs : vs = [] := by cases g; rfl
        subst hvs
        obtain ⟨y, q1, g1⟩ := d1.get e3
        rw [d1.length] at q1
        exact mt_pop pins s σ H _ _ v us Q I rx rs ⟨a1, ws, y, rfl, rfl, h1, q1, endW a R e2 h1 d1.dropLast g1⟩
      · exact a.elim
    · exact a.elim
  · rename_i n i
    split at a
    · rename_i xs e1
      split at a
      · rename_i j e3
        split at a
        · rename_i d e4
          obtain ⟨y, rfl, wy⟩ := rrs1 g
          cases rw_int wy
          obtain ⟨a1, rfl, e2⟩ := rw_ref w
          obtain ⟨ws, h1, d1⟩ := R.obj n _ a1 e1 e2
          obtain ⟨y, q1, g1⟩ := d1.get e4
          obtain ⟨z1, _⟩ := I.lstM h1
          rw [ixN_eq, d1.length] at e3
          obtain ⟨k1, k2, k3, k4⟩ := ixN_seq e3
          have hs : sizeLine = 16777216 := sizeLine_eq
          exact mt_popAt pins s σ H _ _ v us Q I rx rs ⟨a1, ws, i, j, y, rfl, rfl, h1, by omega, by omega, k1, q1, endW a R e2 h1 (d1.eraseIdx j) g1⟩
        · exact a.elim
      · exact a.elim
    · exact a.elim
  · rename_i n d e
    split at a
    · rename_i kvs e1
      split at a
      · rename_i k e2
        obtain ⟨y, z, rfl, wy, wz⟩ := rrs2 g
        obtain ⟨a1, ks, rfl, _, g1, g2⟩ := ro_dc R (.d e1) w
        have hy := rd_key e2 wy
        subst hy
        refine call_dget hu pins s σ H _ _ v us Q I rx rs ⟨a1, _, z, _, rfl, rfl, DGet.rd g1, ?_⟩
        have gg := RKs.get k g2
        cases q : kvGet kvs k with
        | none =>
          rw [q] at a
          rw [gg.2 q]
          exact end1 a R wz
        | some v1 =>
          obtain ⟨w3, z1, z2⟩ := gg.1 v1 q
          rw [q] at a
          rw [z1]
          exact end1 a R z2
      · exact a.elim
    · exact a.elim
  · rename_i n i d
    split at a
    · rename_i xs e1
      split at a
      · rename_i hl
        obtain ⟨y, z, rfl, wy, wz⟩ := rrs2 g
        cases rw_int wy
        obtain ⟨a1, rfl, e2⟩ := rw_ref w
        obtain ⟨ws, h1, d1⟩ := R.obj n _ a1 e1 e2
        refine mt_insert pins s σ H _ _ v us Q I rx rs ⟨a1, ws, i, z, rfl, rfl, h1, by rw [← d1.length, sl_eq]; exact hl.1, hl.2.1, by omega, endW a R e2 h1 (((d1.take _).append (.one wz)).append (d1.drop _)) .non⟩
      · exact a.elim
    · exact a.elim
  · rename_i b _
    split at a
    · rename_i xs e1
      split at a
      · rename_i bs e2
        obtain ⟨y, rfl, wy⟩ := rrs1 g
        cases rw_bl wy
        obtain ⟨a1, vs, rfl, h1, d1⟩ := rw_lst R w e1
        have ev := d1.bls e2
        subst ev
        exact mt_countB pins s σ H _ _ v us Q I rx rs ⟨a1, bs, _, rfl, rfl, h1, end1 a R (.int _)⟩
      · exact a.elim
    · exact a.elim
  · rename_i sep _
    split at a
    · rename_i xs e1
      split at a
      · rename_i ts e2
        split at a
        · rename_i hl
          obtain ⟨y, rfl, wy⟩ := rrs1 g
          cases rw_str w
          obtain ⟨a1, vs, rfl, h1, d1⟩ := rw_lst R wy e1
          have ev := strs_vals d1 e2
          subst ev
          refine mt_join pins s σ H _ _ v us Q I rx rs ⟨_, a1, ts.map st, rfl, rfl, .inl h1, ?_, ?_⟩
          · have hl' : (ts.map List.length).sum + ts.length * sep.length ≤ 16777216 := hl
            rw [List.map_map, List.length_map]
            have e3 : (fun x : Str => x.length) ∘ st = List.length := by
              funext x
              show Array.size _ = _
              simp
            have e4 : (st sep).length = sep.length := by show Array.size _ = _; simp
            rw [e3, e4]
            exact hl'
          · rw [join_st]
            exact end1 a R (.str _)
        · exact a.elim
      · exact a.elim
    · exact a.elim
  · split at a
    · rename_i hl
      have e0 := rrs0 g
      subst e0
      cases rw_str w
      refine mt_lower pins s σ H _ _ v us Q I rx rs ⟨_, rfl, rfl, (by show (List.toArray _).size ≤ _; rw [List.size_toArray]; exact hl), ?_⟩
      have e1 : ∀ y : Tx, Txt.lower (st y) = st (lowT y) := fun y => by
        unfold lowT
        show _ = (⟨(Txt.lower (st y)).cps.toList.toArray⟩ : Str)
        rw [Array.toArray_toList]
      rw [e1]
      exact end1 a R (.str _)
    · exact a.elim
  · exact a.elim

/-! ### stores -/
def rSet (c : Cn) : V → V → V → Hp → (Hp → Prop) → Prop := fun o i v H Q => ∃ ι h ro ri d h', RH c ι H h ∧ RW c ι H ro o ∧ RW c ι H ri i ∧ RD c ι H d v ∧ setItF ro ri d h = some h' ∧ ∀ ι' H', Stp ι H ι' H' → RH c ι' H' h' → Q H'
theorem Inv.dk_nodup {a : Addr} {ks : List (Key × V)} (I : Inv X pins σ H s) (e : H a = some (.dK ks)) : (ks.map (·.1)).Nodup := by
  obtain ⟨_, _, vs, rel, o, es, ep, _, _, _, _, _, nd⟩ := I.hok a _ e
  have k : ∀ {l : List (Key × V)} {m : List (Key × Value)}, KV l m → l.map (·.1) = m.map (·.1) := by
    intro l m q
    induction q with
    | nil => rfl
    | cons h _ ih => rw [List.map_cons, List.map_cons, h.1, ih]
  rw [k rel]
  exact nd
theorem set_ok (hK : X.K = c.K) (hu : X.A.units + 65 < cLine) : PSet X (rSet c) := by
  intro pins s σ H o i v ov iv u Q I ro ri rv hq
  obtain ⟨ι, h, r, t, d, h', R, w1, w2, wd, e, a⟩ := hq
  unfold setItF at e
  split at e
  · rename_i n k
    obtain ⟨a1, rfl, e2⟩ := rw_ref w1
    split at e
    · rename_i xs e1
      split at e
      · rename_i j
        split at e
        · rename_i p e3
          cases e
          cases rw_int w2
          obtain ⟨ws, h1, d1⟩ := R.obj n _ a1 e1 e2
          rw [ixN_eq, d1.length] at e3
          refine set_list pins s σ H _ _ _ ov iv u Q I ro ri rv ⟨a1, ws, j, p, rfl, rfl, h1, e3, ?_⟩
          have s1 : Stp ι H ι (upd H a1 (.lst (ws.set p v))) := Stp.write R (List.mem_of_getElem? e2) (nf_lst h1)
          exact a ι _ s1 (R.write e2 (nf_lst h1) ⟨_, upd_same, RDs.set (wd.mono s1) p (d1.mono s1)⟩)
        · cases e
      · cases e
    · rename_i kvs e1
      split at e
      · rename_i q e3
        split at e
        · rename_i hl
          cases e
          obtain ⟨ks, g1, g2⟩ := R.obj n _ a1 e1 e2
          have hy := rd_key e3 w2
          subst hy
          cases ro
          have nd := Inv.dk_nodup I g1
          have s1 : Stp ι H ι (upd H a1 (.dK (putK ks (kI q) v))) := Stp.write R (List.mem_of_getElem? e2) (nf_dic g1)
          refine d_setItem (by omega) I (DPut.k g1 (by rw [← g2.length, sl_eq]; exact hl)) ri rv fun s2 I2 => ⟨_, I2, a ι _ s1 (R.write e2 (nf_dic g1) ⟨_, upd_same, ?_⟩)⟩
          exact RKs.put (wd.mono s1) e3 (g2.mono s1) nd
        · cases e
      · cases e
    · cases e
  · cases e
def rIp (c : Cn) (op : BOp) : V → V → Hp → VK → Prop := fun x y H Q => op ≠ .pow ∧ ∃ ι h i j, RH c ι H h ∧ x = .int i ∧ y = .int j ∧ After c ι H (bopF op (.v (.int i)) (.v (.int j)) h) (RR c H) Q (fun _ _ => False)
theorem ip_ok (op : BOp) : PIp X op.op (rIp c op) := by
  intro pins s σ H x y v u Q I rx ry hq
  obtain ⟨np, ι, h, i, j, R, rfl, rfl, a⟩ := hq
  cases op with
  | add => exact iop_add pins s σ H _ _ v u Q I rx ry ⟨_, _, rfl, rfl, end1 (show After c ι H (ok1 (.int (i + j)) h) (RR c H) Q _ from a) R (.int _)⟩
  | sub => exact iop_sub pins s σ H _ _ v u Q I rx ry ⟨_, _, rfl, rfl, end1 (show After c ι H (ok1 (.int (i - j)) h) (RR c H) Q _ from a) R (.int _)⟩
  | mul =>
    have a' : After c ι H (if mulOk i j then ok1 (.int (i * j)) h else .bad) (RR c H) Q (fun _ _ => False) := a
    split at a'
    · rename_i hc
      have hc' : IntMulOk i j := (mulOk_ok hc).elim (fun z => z.ok) fun z => z.ok
      obtain ⟨t, rfl⟩ := rx
      obtain ⟨t', rfl⟩ := ry
      exact imul_int ⟨.int (i * j), H, I.tok _, ⟨_, rfl⟩, end1 a' R (.int _)⟩ hc'
    · exact a'.elim
  | fdiv =>
    have a' : After c ι H (if divOk j then ok1 (.int (i / j)) h else .bad) (RR c H) Q (fun _ _ => False) := a
    split at a'
    · rename_i hc
      have hc' := Bool.and_eq_true_iff.mp hc
      have k1 : (0 : Int) < j := of_decide_eq_true hc'.1
      obtain ⟨t, rfl⟩ := rx
      obtain ⟨t', rfl⟩ := ry
      exact ifloordiv_int (by omega) (by rw [Int.fdiv_eq_ediv_of_nonneg i (by omega)]; exact ⟨.int (i / j), H, I.tok _, ⟨_, rfl⟩, end1 a' R (.int _)⟩) (.inl (PyProof.noPylong_of_log2 (of_decide_eq_true hc'.2)))
    · exact a'.elim
  | mod =>
    have a' : After c ι H (if 0 < j then ok1 (.int (i % j)) h else .bad) (RR c H) Q (fun _ _ => False) := a
    split at a'
    · rename_i hc
      exact iop_mod pins s σ H _ _ v u Q I rx ry ⟨_, _, rfl, rfl, hc, end1 a' R (.int _)⟩
    · exact a'.elim
  | pow => exact absurd rfl np
end
end MP

/-! MP4a: the table, the context, targets, what loops walk. -/
namespace MP
open PySem PySem.Spec PyProof.Rows L2
/-! ### the table of a program -/
structure Tb where
  names : List Str
  glbs : List Str
  free : List Str
  /-- whether a lambda may be made here -/
  lam : Bool
/-- a def's promise, from what it does in the small -/
def spM (c : Cn) (g : List D → Hm → Res D) : Sp := fun vs H Q E => ∃ ι h ds, RDs c ι H ds vs ∧ RH c ι H h ∧ After c ι H (g ds h) (RD c) Q fun e H' => E (c.X e) none H'
structure Cok (X : Cx) (c : Cn) (N : List Str) (sc : Scope) (ac : Str → Bool) (k : Nat) (T : Tb) (G : Nat → D) (cf : Nat → List D → Hm → Res D) (W : WX) : Prop where
  n : X.N = N
  nd : N.Nodup
  s : X.env.scope = sc
  K : X.K = c.K
  calm : X.calm = true
  room : Room k X.A
  fn : ∀ x, ac x = true → X.fn x = true
  fns : ∀ (i : Nat) (x : Str), T.names[i]? = some x → ∃ (f : Addr) (fd : FuncData) (ps : List Str), X.mg x = some (.ref f) ∧ PySem.W.keepIn X.K (.ref f) = true ∧ Binds X.K fd ps [] ∧ FnOk X.prog X.w X.K X.mg X.base (L2.CX X.prog X.w) k f fd ps (spM c (cf i))
  kfn : ∀ (i : Nat) (x : Str), T.names[i]? = some x → ∃ (f : Addr) (fd : FuncData) (ps : List Str) (j : Nat), X.mg x = some (.ref f) ∧ Binds X.K fd ps [] ∧ Room j X.A.in1.in1 ∧ FnOk X.prog X.w X.K X.mg X.base (L2.CX X.prog X.w) j f fd ps (spM c (cf (i + KOFF)))
  fnF : ∀ (i : Nat) (x : Str), T.names[i]? = some x → ∃ f : Addr, X.mg x = some (.ref f) ∧ c.F i = some f
  fnN : ∀ (i : Nat) (a : Addr), c.F i = some a → ∃ x : Str, T.names[i]? = some x
  free : ∀ x, x ∈ T.free → X.mg x = none
  glb : ∀ (i : Nat) (x : Str), T.glbs[i]? = some x → ∃ (u : Value) (v : V), X.mg x = some u ∧ RelV v u ∧ ∀ ι H, RD c ι H (G i) v
  lamE : T.lam = true → ∃ (a P : Addr), X.env.code = .ref a ∧ LamX.TabB X.base X.mg a P ∧ (∀ Q, Q ∈ c.T ↔ Q = P) ∧ X.env.qual ++ "<lambda>" = LN ∧ ∃ j, Room (j + 3) X.A.in1.in1
  tk : Takes X W
  pass : PassesOwn (model X.prog X.w) X.A X.env X.xe
theorem Cok.hu {X : Cx} {c : Cn} {N : List Str} {sc : Scope} {ac : Str → Bool} {k : Nat} {T : Tb} {G : Nat → D} {cf : Nat → List D → Hm → Res D} {W : WX} (C : Cok X c N sc ac k T G cf W) : X.A.units + 65 < cLine := by
  have := C.room.un
  omega
theorem tgt_wipe {σ : L2.St} {i : Nat} {v : Option V} : ∀ {vs : List Nat}, i ∈ vs → L2.wipe (σ.set i v) vs = L2.wipe σ vs
  | [], m => by cases m
  | j :: vs, m => by
    show (L2.wipe (σ.set i v) vs).set j none = (L2.wipe σ vs).set j none
    by_cases e : i ∈ vs
    · rw [tgt_wipe e]
    · have e2 : i = j := by
        rcases List.mem_cons.mp m with z | z
        · exact z
        · exact absurd z e
      subst e2
      have k : ∀ (ws : List Nat), i ∉ ws → L2.wipe (σ.set i v) ws = (L2.wipe σ ws).set i v := by
        intro ws
        induction ws with
        | nil => intro _; rfl
        | cons w ws ih =>
          intro n
          have n1 : i ≠ w := fun z => n (by rw [z]; exact List.mem_cons_self)
          have n2 : i ∉ ws := fun z => n (List.mem_cons_of_mem _ z)
          show (L2.wipe (σ.set i v) ws).set w none = ((L2.wipe σ ws).set w none).set i v
          rw [ih n2, List.set_comm _ _ n1]
      rw [k vs e, List.set_set]
section
variable {X : Cx} {c : Cn} {N : List Str} {sc : Scope} {ac : Str → Bool} {k : Nat} {T : Tb} {G : Nat → D} {cf : Nat → List D → Hm → Res D} {W : WX}
/-! ### names -/
def visB (sc : Scope) (x : Str) : Bool := match sc.names.lookup x with
  | some .local | some .cell | some .free => true
  | _ => false
theorem visB_ok {env : PySem.Env} {sc : Scope} {x : Str} (hs : env.scope = sc) (e : visB sc x = true) : Vis env.scope x := by
  subst hs
  unfold visB at e
  split at e
  · exact .inl (by assumption)
  · exact .inr (.inl (by assumption))
  · exact .inr (.inr (by assumption))
  · cases e
def locB (sc : Scope) (ac : Str → Bool) (x : Str) : Bool := match sc.names.lookup x with
  | some .local => true
  | some .cell => ac x
  | _ => false
theorem locB_ok (C : Cok X c N sc ac k T G cf W) {x : Str} (e : locB sc ac x = true) : Loc X.env.scope x ∧ (X.fn x = true ∨ X.env.scope.names.lookup x = some .local) := by
  rw [C.s]
  unfold locB at e
  split at e
  · exact ⟨.inl (by assumption), .inr (by assumption)⟩
  · exact ⟨.inr (by assumption), .inl (C.fn _ e)⟩
  · cases e
def glB (sc : Scope) (x : Str) : Bool := decide (sc.names.lookup x = some .globalImplicit)
theorem glB_ok (C : Cok X c N sc ac k T G cf W) {x : Str} (e : glB sc x = true) : Gl X x := by
  show X.env.scope.names.lookup x = some .globalImplicit
  rw [C.s]
  exact of_decide_eq_true e
def okName (x : Str) : Bool := !(x == ("__debug__" : Str)) && (!(x == ("__classdict__" : Str)) && !decide (x = ("__name__" : Str)))
theorem okName_ok {x : Str} (e : okName x = true) : (x == ("__debug__" : Str)) = false ∧ (x == ("__classdict__" : Str)) = false ∧ x ≠ ("__name__" : Str) := by
  unfold okName at e
  simp only [Bool.and_eq_true, Bool.not_eq_true', decide_eq_false_iff_not] at e
  exact ⟨e.1, e.2.1, e.2.2⟩
/-! ### targets -/
def MT.slots : MT → List Nat
  | .nm i => [i]
  | .tp ts => ts
def chkNm (N : List Str) (sc : Scope) (ac : Str → Bool) (i : Nat) (e : Expr) : Bool := match e with
  | .Name x _ => decide (N[i]? = some x) && locB sc ac x
  | _ => false
def chkNms (N : List Str) (sc : Scope) (ac : Str → Bool) : List Nat → List Expr → Bool
  | [], [] => true
  | t :: ts, e :: es => chkNm N sc ac t e && chkNms N sc ac ts es
  | _, _ => false
def chkT (N : List Str) (sc : Scope) (ac : Str → Bool) (t : MT) (e : Expr) : Bool := match t, e with
  | .nm i, e => chkNm N sc ac i e
  | .tp ts, .Tuple es _ _ => chkNms N sc ac ts es
  | _, _ => false
theorem pg_nm (C : Cok X c N sc ac k T G cf W) {i : Nat} {e : Expr} (h : chkNm N sc ac i e = true) : PG X e (gName i) := by
  unfold chkNm at h
  split at h
  · rename_i x pos
    obtain ⟨h1, h2⟩ := Bool.and_eq_true_iff.mp h
    obtain ⟨l1, l2⟩ := locB_ok C h2
    exact pg_name (by rw [C.n]; exact C.nd) (by rw [C.n]; exact of_decide_eq_true h1) l1 l2
  · cases h
/-- stores one after another -/
def gNms : List Nat → TGs
  | [] => gNil
  | t :: ts => gCons (gName t) (gNms ts)
theorem assignEach_name {x : Str} {p : Pos} {es : List Expr} {env : PySem.Env} : assignEach (.Name x p :: es) env = (false, assign (.Name x p) env) :: assignEach es env := rfl
theorem pgs_nms (C : Cok X c N sc ac k T G cf W) : ∀ {ts : List Nat} {es : List Expr}, chkNms N sc ac ts es = true → PGs X es (gNms ts) ∧ (assignEach es X.env).length = ts.length ∧ (assignEach es X.env).findIdx? (·.1) = none
  | [], [], _ => ⟨pgs_nil, rfl, rfl⟩
  | t :: ts, e :: es, h => by
    obtain ⟨h1, h2⟩ := Bool.and_eq_true_iff.mp (show (chkNm N sc ac t e && chkNms N sc ac ts es) = true from h)
    obtain ⟨a1, a2, a3⟩ := pgs_nms C h2
    have b := pg_nm C h1
    unfold chkNm at h1
    split at h1
    · refine ⟨pgs_cons b a1 rfl, ?_, ?_⟩
      · rw [assignEach_name, List.length_cons, a2, List.length_cons]
      · rw [assignEach_name, List.findIdx?_cons]
        simp [a3]
    · cases h1
  | [], _ :: _, h => by cases h
  | _ :: _, [], h => by cases h
/-- a target's reading -/
def gM (c : Cn) (t : MT) : TG := fun v σ H Q => ∃ ι d env env', RD c ι H d v ∧ RE c ι H env σ ∧ tgF t d env = some env' ∧ ∀ σ', RE c ι H env' σ' → (∀ vs, (∀ i ∈ t.slots, i ∈ vs) → L2.wipe σ' vs = L2.wipe σ vs) → Q σ' H
theorem gNms_run {ι : List Addr} {H : Hp} {Q : L2.St → Hp → Prop} : ∀ {ts : List Nat} {ds : List D} {vs : List V} {env env' : Env} {σ : L2.St}, setSlots env ts ds = some env' → RDs c ι H ds vs → RE c ι H env σ →
    (∀ σ', RE c ι H env' σ' → (∀ ws, (∀ i ∈ ts, i ∈ ws) → L2.wipe σ' ws = L2.wipe σ ws) → Q σ' H) → gNms ts vs σ H Q
  | [], [], _, _, _, σ, e, .nil, r, q => by
    cases e
    exact ⟨rfl, q σ r fun _ _ => rfl⟩
  | t :: ts, d :: ds, v :: vs, env, env', σ, e, .cons g gs, r, q => by
    refine ⟨v, vs, rfl, ?_⟩
    exact gNms_run (ts := ts) e gs (r.set g t) fun σ' r' w => q σ' r' fun ws hw => by
      rw [w ws fun i hi => hw i (List.mem_cons_of_mem _ hi), tgt_wipe (hw t List.mem_cons_self)]
  | [], _ :: _, _, _, _, _, e, _, _, _ => by cases e
  | _ :: _, [], _, _, _, _, e, _, _, _ => by cases e
theorem pg_weaken {e : Expr} {t t' : TG} (h : PG X e t) (w : ∀ v σ H Q, t' v σ H Q → t v σ H Q) : PG X e t' := ⟨fun pins s σ H v u Q I r q => h.run pins s σ H v u Q I r (w v σ H Q q)⟩
theorem tgF_tp {ts : List Nat} {d : D} {env env' : Env} (e : tgF (.tp ts) d env = some env') : ∃ ds, d = .tup ds ∧ setSlots env ts ds = some env' := by
  cases d with
  | tup ds => exact ⟨ds, rfl, e⟩
  | _ => cases e
theorem setSlots_len {env' : Env} : ∀ {ts : List Nat} {ds : List D} {env : Env}, setSlots env ts ds = some env' → ds.length = ts.length
  | [], [], _, _ => rfl
  | [], _ :: _, _, e => by cases e
  | _ :: _, [], _, e => by cases e
  | _ :: ts, _ :: ds, _, e => congrArg (· + 1) (setSlots_len (ts := ts) e)
theorem pg_ok (C : Cok X c N sc ac k T G cf W) {t : MT} {e : Expr} (h : chkT N sc ac t e = true) : PG X e (gM c t) := by
  cases t with
  | nm i =>
    have h : chkNm N sc ac i e = true := h
    refine pg_weaken (pg_nm C h) fun v σ H Q q => ?_
    obtain ⟨ι, d, env, env', g, r, e1, q⟩ := q
    cases e1
    exact q _ (r.set g i) fun vs hv => tgt_wipe (hv i (List.mem_singleton.mpr rfl))
  | tp ts =>
    cases e with
    | Tuple es k0 p0 =>
      have h : chkNms N sc ac ts es = true := h
      obtain ⟨a1, a2, a3⟩ := pgs_nms C h
      refine pg_weaken (pg_tup C.calm a1 rfl a3) fun v σ H Q q => ?_
      obtain ⟨ι, d, env, env', g, r, e1, q⟩ := q
      obtain ⟨ds, rfl, e2⟩ := tgF_tp e1
      obtain ⟨a, vs, rfl, h1, d1⟩ := rw_tup (show RW c ι H (.v (.tup ds)) v from g)
      have hl : vs.length = (assignEach es X.env).length := by rw [a2, ← d1.length, setSlots_len e2]
      exact ⟨a, vs, rfl, C.K ▸ h1, hl, gNms_run e2 d1 r q⟩
    | _ => cases h

/-- (a, b, ..) = a tuple or list of that length -/
def gSeq (c : Cn) (ts : List Nat) : TG := fun v σ H Q => ∃ ι a vs ds env env', v = .ref a ∧ (SqT c.K H a vs ∨ SqL c.K H a vs) ∧ RDs c ι H ds vs ∧ RE c ι H env σ ∧ setSlots env ts ds = some env' ∧ ∀ σ', RE c ι H env' σ' → (∀ ws, (∀ i ∈ ts, i ∈ ws) → L2.wipe σ' ws = L2.wipe σ ws) → Q σ' H
theorem pg_seq (C : Cok X c N sc ac k T G cf W) {ts : List Nat} {es : List Expr} {k0 : Nat} {p0 : Pos} (h : chkNms N sc ac ts es = true) : PG X (.Tuple es k0 p0) (gSeq c ts) := by
  obtain ⟨a1, a2, a3⟩ := pgs_nms C h
  refine ⟨fun pins s σ H v u Q I r hw => ?_⟩
  obtain ⟨ι, a, vs, ds, env, env', rfl, hq, d1, re, e2, q⟩ := hw
  have hl : vs.length = (assignEach es X.env).length := by rw [a2, ← d1.length, setSlots_len e2]
  rcases hq with hq | hq
  · exact (pg_tup C.calm a1 rfl a3).run pins s σ H _ u Q I r ⟨a, vs, rfl, by rw [C.K]; exact hq, hl, gNms_run e2 d1 re q⟩
  · cases r
    obtain ⟨its, rv, ht, hz⟩ := I.list (by rw [C.K]; exact hq)
    rw [assign_Tuple]
    refine wpAny_bind (wpAny_standAt ?_)
    unfold unpack
    have hn : (assignEach es X.env).length = its.toArray.size := by rw [← hl, List.size_toArray, rv.length]
    rw [hn, a3]
    refine wpAny_bind (wpAny_holding (PySem.W.kun_itemsOf (I.ok.hd C.calm) ht.isList fun h' hx => ?_))
    have I1 : Inv X pins σ H { s with heap := h' } := I.kept (t' := s.toks) fun b o e => hx b o (Nat.ne_of_lt (Heap.lt_size e)) e
    exact a1.run pins _ σ H vs _ Q I1 (by simpa using rv) (gNms_run e2 d1 re q)
/-! ### what loops walk -/
structure Feed (c : Cn) (ι0 : List Addr) (H0 : Hp) (s : Src) (J : It) : Prop where
  len : s.items.length ≤ sizeLine
  go : ∀ (ι : List Addr) (H : Hp) (h : Hm) (i : Nat) (d : D), Stp ι0 H0 ι H → RH c ι H h → HC s.conds h → s.items[i]? = some d →
    J.go i H ∧ ∀ x H', J.yld i H x H' → Stp ι H ι H' ∧ RH c ι H' h ∧ RD c ι H' d x
  stop : ∀ (ι : List Addr) (H : Hp) (h : Hm) (i : Nat), Stp ι0 H0 ι H → RH c ι H h → HC s.conds h → s.items.length ≤ i → J.stop i H
def tI (c : Cn) (W : WX) (m : Env → Hm → Res Src) : TI := fun σ H R => ∃ ι env h, RE c ι H env σ ∧ RH c ι H h ∧ After c ι H (m env h) (Feed c) R fun e H' => W (c.X e) none σ H'
theorem pi_weaken {tg e : Expr} {t t' : TI} (h : PI X tg e t) (w : ∀ σ H R, t' σ H R → t σ H R) : PI X tg e t' := ⟨fun pins s σ H R I q => h.run pins s σ H R I (w σ H R q)⟩
theorem hc_list {ι : List Addr} {H : Hp} {h : Hm} {n : Nat} {xs : List D} (R : RH c ι H h) (e : HC [(n, .lst xs)] h) {a : Addr} (ea : ι[n]? = some a) : ∃ vs, H a = some (.lst vs) ∧ RDs c ι H xs vs :=
  R.obj n _ a (e (n, .lst xs) List.mem_cons_self) ea
/-- a list as it is walked: where it stands, what keeps it -/
inductive LW (c : Cn) (ι0 : List Addr) (H0 : Hp) (xs : List D) (cs : List (Nat × O)) (a : Addr) : Prop
  | mk (k : ∀ ι H h, Stp ι0 H0 ι H → RH c ι H h → HC cs h → ∃ vs, SqL c.K H a vs ∧ RDs c ι H xs vs)
theorem srcL_ok {ι : List Addr} {H H0 : Hp} {h : Hm} {r : RV} {x : V} {s : Src} (R : RH c ι H h) (w : RW c ι H r x) (e : srcL r h = some s) :
    ∃ a, x = .ref a ∧ LW c ι H s.items s.conds a := by
  unfold srcL at e
  split at e
  · cases e
    obtain ⟨a, vs, rfl, h1, h2, d1⟩ := w
    exact ⟨a, rfl, ⟨fun ι' H' h' s _ _ => ⟨vs, SqL.of (s.keep a _ h2 h1 (fun _ z => nomatch z)), d1.mono s⟩⟩⟩
  · cases e
    cases w with
    | fz h1 d1 => exact ⟨_, rfl, ⟨fun ι' H' h' s _ _ => ⟨_, (s.sqF h1).l, d1.mono s⟩⟩⟩
  · split at e
    · cases e
      obtain ⟨a, rfl, e1⟩ := rw_ref w
      refine ⟨a, rfl, ⟨fun ι' H' h' s R' hc => ?_⟩⟩
      obtain ⟨vs, h1, d1⟩ := hc_list R' hc (s.get e1)
      exact ⟨vs, SqL.of h1, d1⟩
    · cases e
  · cases e
theorem feed_list {ι : List Addr} {H : Hp} {xs : List D} {cs : List (Nat × O)} {a : Addr} (hl : xs.length ≤ sizeLine) (L : LW c ι H xs cs a) : Feed c ι H ⟨xs, cs⟩ (Itl c.K a) := by
  obtain ⟨L⟩ := L
  refine ⟨hl, fun ι' H' h' i d s R hc e => ?_, fun ι' H' h' i s R hc e => ?_⟩
  · obtain ⟨vs, h1, d1⟩ := L ι' H' h' s R hc
    obtain ⟨v, e1, g⟩ := d1.get e
    refine ⟨⟨vs, v, h1, e1⟩, fun x H2 y => ?_⟩
    obtain ⟨rfl, y2⟩ := y
    have := y2 vs h1
    rw [e1] at this
    cases this
    exact ⟨Stp.refl, R, g⟩
  · obtain ⟨vs, h1, d1⟩ := L ι' H' h' s R hc
    exact ⟨vs, h1, by rw [← d1.length]; exact e⟩
theorem feed_tup {ι : List Addr} {H : Hp} {xs : List D} {vs : List V} {a : Addr} (hl : xs.length ≤ sizeLine) (h1 : SqT c.K H a vs) (d1 : RDs c ι H xs vs) : Feed c ι H ⟨xs, []⟩ (Itt c.K a) := by
  refine ⟨hl, fun ι' H' h' i d s R hc e => ?_, fun ι' H' h' i s R hc e => ?_⟩
  · obtain ⟨v, e1, g⟩ := (d1.mono s).get e
    refine ⟨⟨vs, v, s.sqT h1, e1⟩, fun x H2 y => ?_⟩
    obtain ⟨rfl, y2⟩ := y
    have := y2 vs (s.sqT h1)
    rw [e1] at this
    cases this
    exact ⟨Stp.refl, R, g⟩
  · exact ⟨vs, s.sqT h1, by rw [← d1.length]; exact e⟩
theorem feed_str {ι : List Addr} {H : Hp} {z : Tx} (hl : z.length ≤ sizeLine) : Feed c ι H ⟨z.map fun q => .str [q], []⟩ (Its (st z)) := by
  have hz : (st z).cps.size = z.length := by show Array.size _ = _; simp
  refine ⟨by rw [List.length_map]; exact hl, fun ι' H' h' i d s R hc e => ?_, fun ι' H' h' i s R hc e => ?_⟩
  · rw [List.getElem?_map] at e
    obtain ⟨q, e1, rfl⟩ := Option.map_eq_some_iff.mp e
    refine ⟨?_, fun x H2 y => ?_⟩
    · show i < (st z).cps.size
      rw [hz]; exact (List.getElem?_eq_some_iff.mp e1).1
    · obtain ⟨rfl, q2, e2, rfl⟩ := y
      have e3 : (st z).cps[i]? = some q := by
        show z.toArray[i]? = some q
        simpa using e1
      rw [e3] at e2
      cases e2
      exact ⟨Stp.refl, R, .str [q]⟩
  · show (st z).cps.size ≤ i
    rw [hz]
    rw [List.length_map] at e
    exact e
theorem RKs.keyAt : ∀ {kvs : List (D × D)} {ks : List (Key × V)} {ι : List Addr} {H : Hp} {i : Nat} {d : D}, RKs c ι H kvs ks → (kvs.map (·.1))[i]? = some d → ∃ k, key1 d = some k ∧ (ks.map (·.1))[i]? = some (kI k)
  | _, _, _, _, _, _, .nil, e => by simp at e
  | _, _, _, _, 0, _, .cons h _ _, e => by simp at e; subst e; exact ⟨_, h, rfl⟩
  | _, _, _, _, i + 1, _, .cons _ _ r, e => by
    obtain ⟨k, h1, h2⟩ := RKs.keyAt (i := i) r (by simpa using e)
    exact ⟨k, h1, by simpa using h2⟩
theorem key_rd {ι : List Addr} {H : Hp} {d : D} {k : Sum Int Tx} (e : key1 d = some k) : RD c ι H d (kV (kI k)) := by
  unfold key1 at e
  split at e
  · cases e; exact .int _
  · cases e; exact .str _
  · cases e
/-- a dict's keys, while it is locked -/
theorem feed_keys {ι : List Addr} {H : Hp} {kvs : List (D × D)} {ks : List (Key × V)} {a : Addr} {o : Obj} (hl : kvs.length ≤ sizeLine) (h1 : H a = some (.frz o (.dK ks))) (d1 : RKs c ι H kvs ks) : Feed c ι H ⟨kvs.map (·.1), []⟩ (Itk a o ks) := by
  refine ⟨by rw [List.length_map]; exact hl, fun ι' H' h' i d s R hc e => ?_, fun ι' H' h' i s R hc e => ?_⟩
  · have g := s.frz _ _ _ h1
    obtain ⟨k, e1, e2⟩ := d1.keyAt e
    rw [List.getElem?_map] at e2
    obtain ⟨⟨k2, w⟩, e3, e4⟩ := Option.map_eq_some_iff.mp e2
    refine ⟨⟨g, (List.getElem?_eq_some_iff.mp e3).1⟩, fun x H2 y => ?_⟩
    obtain ⟨rfl, k3, v3, y2, rfl⟩ := y
    rw [e3] at y2
    cases y2
    cases e4
    exact ⟨Stp.refl, R, key_rd e1⟩
  · rw [List.length_map, d1.length] at e
    exact ⟨s.frz _ _ _ h1, e⟩
theorem pi_seq (hK : X.K = c.K) {tg e : Expr} {m : Env → Hm → Res RV} (he : PE X e (tE c W m)) :
    PI X tg e (tI c W fun env h => (m env h).bind fun x h1 => match srcOf x h1 with | some s => .ok s h1 | none => .bad) := by
  refine ⟨fun pins s σ H R I hq => ?_⟩
  obtain ⟨ι, env, h, re, rh, a⟩ := hq
  obtain ⟨K0, F0, X0, T0⟩ := c
  obtain rfl : X.K = K0 := hK
  refine thn (he.run pins s σ H (fun x H1 => ∃ ι1 h1 r, RH ⟨X.K, F0, X0, T0⟩ ι1 H1 h1 ∧ RW ⟨X.K, F0, X0, T0⟩ ι1 H1 r x ∧ ∃ s0, srcOf r h1 = some s0 ∧ ∀ J, Feed ⟨X.K, F0, X0, T0⟩ ι1 H1 s0 J → R J H1) I ⟨ι, env, h, re, rh, a.bind fun r h1 ι1 H1 v s1 R1 w a1 => ?_⟩) fun v s1 ⟨x, H1, I1, rx, q1⟩ => ?_
  · cases q : srcOf r h1 with
    | none => rw [q] at a1; exact a1.elim
    | some s0 =>
      rw [q] at a1
      exact ⟨ι1, h1, r, R1, w.w, s0, q, fun J f => a1 ι1 H1 J Stp.refl R1 f⟩
  · obtain ⟨ι1, h1, r, R1, w, s0, e0, q⟩ := q1
    have asList : ∀ {a : Addr} {xs : List D} {cs : List (Nat × O)}, x = .ref a → s0 = ⟨xs, cs⟩ → LW ⟨X.K, F0, X0, T0⟩ ι1 H1 xs cs a → HC cs h1 → wpAny (model X.prog X.w) X.A (pyIter v) (PIE X pins σ tg R) X.xe s1 := fun {a xs cs} e1 e2 L hc => by
      subst e1 e2
      cases rx
      obtain ⟨vs, g1, d1⟩ := (id L : LW _ _ _ _ _ _).1 ι1 H1 h1 Stp.refl R1 hc
      obtain ⟨its, rv, p, hz⟩ := I1.list g1
      refine wpAny_pyIter_list p.isList ?_
      exact pi_one (tk := s1.toks) I1 _ (turn_list a _) ⟨_, Heap.get?_push_size _ rfl, rfl, rfl⟩ (q _ (feed_list (by rw [d1.length]; exact hz) L))
    unfold srcOf at e0
    split at e0
    · cases e0
      obtain ⟨a1, e1, L⟩ := srcL_ok (H0 := H1) R1 w (s := ⟨_, []⟩) rfl
      exact asList e1 rfl L (fun _ z => nomatch z)
    · cases e0
      obtain ⟨a1, vs, rfl, g1, d1⟩ := rw_tup w
      cases rx
      obtain ⟨its, rv, p, hz⟩ := I1.tuple g1
      refine wpAny_pyIter_tuple (show s1.heap.IsTuple a1 its.toArray from p) ?_
      exact pi_one (tk := s1.toks) I1 _ (turn_tuple a1 _) ⟨_, Heap.get?_push_size _ rfl, rfl, rfl⟩ (q _ (feed_tup (by rw [d1.length]; exact hz) g1 d1))
    · cases e0
      obtain ⟨a1, e1, L⟩ := srcL_ok (H0 := H1) R1 w (s := ⟨_, []⟩) rfl
      exact asList e1 rfl L (fun _ z => nomatch z)
    · split at e0
      · rename_i z hl
        cases e0
        cases rw_str w
        obtain ⟨t, rfl⟩ := rx
        have f := q _ (feed_str (c := ⟨X.K, F0, X0, T0⟩) (ι := ι1) (H := H1) (z := z) (by rw [sl_eq]; exact hl))
        cases hasc : (st z).cps.all (· < 128)
        · exact wpAny_pyIter_wide hasc (pi_one (tk := s1.toks) I1 _ (turn_str _ (st z) t "str_iterator" (.inr rfl)) ⟨_, Heap.get?_push_size _ rfl, rfl, rfl⟩ f)
        · exact wpAny_pyIter_ascii hasc (pi_one (tk := s1.toks) I1 _ (turn_str _ (st z) t "str_ascii_iterator" (.inl rfl)) ⟨_, Heap.get?_push_size _ rfl, rfl, rfl⟩ f)
      · cases e0
    · split at e0
      · rename_i n _ xs e2
        cases e0
        obtain ⟨a1, e1, L⟩ := srcL_ok (H0 := H1) R1 w (s := ⟨xs, [(n, .lst xs)]⟩) (by unfold srcL; dsimp only; rw [e2])
        exact asList e1 rfl L (fun p m => by rw [List.mem_singleton.mp m]; exact e2)
      · rename_i n _ kvs e2
        cases e0
        obtain ⟨a1, rfl, e3⟩ := rw_ref w
        obtain ⟨o, ks, g1, g2⟩ := R1.obj n _ a1 e2 e3
        cases rx
        obtain ⟨hs, hgd, hx, es, ep, vs, hdt, hsz, kv, hm⟩ := I1.frzK g1
        refine iter_keys hs hgd hx hdt (pi_one (tk := s1.toks) I1 _ (turn_keys _ hdt) ⟨_, Heap.get?_push_size _ rfl, rfl, ?_⟩ (q _ (feed_keys (by rw [g2.length]; exact (I1.hok a1 _ g1).2.1) g1 g2)))
        rw [hsz] <;> rfl
      · cases e0
    · cases e0
end
end MP

/-! MP4b: ranges, enumerate, zip, reversed; comprehensions. -/
namespace MP
open PySem PySem.Spec PyProof.Rows L2
section
variable {X : Cx} {c : Cn} {N : List Str} {sc : Scope} {ac : Str → Bool} {k : Nat} {T : Tb} {G : Nat → D} {cf : Nat → List D → Hm → Res D} {W : WX}
theorem countUp_get : ∀ (n : Nat) (lo : Int) (i : Nat), (countUp lo n)[i]? = if i < n then some (.int (lo + i)) else none
  | 0, lo, i => by simp [countUp]
  | n + 1, lo, 0 => by simp [countUp]
  | n + 1, lo, i + 1 => by
    show (countUp (lo + 1) n)[i]? = _
    rw [countUp_get n (lo + 1) i]
    by_cases h : i < n
    · rw [if_pos h, if_pos (by omega)]
      congr 2
      omega
    · rw [if_neg h, if_neg (by omega)]
theorem countUp_len : ∀ (n : Nat) (lo : Int), (countUp lo n).length = n
  | 0, _ => rfl
  | n + 1, lo => congrArg (· + 1) (countUp_len n (lo + 1))
theorem feed_range {ι : List Addr} {H : Hp} {lo : Int} {n : Nat} (hl : n ≤ SL) : Feed c ι H ⟨countUp lo n, []⟩ (Itr lo n) := by
  refine ⟨by rw [countUp_len, sl_eq]; exact hl, fun ι' H' h' i d s R hc e => ?_, fun ι' H' h' i s R hc e => ?_⟩
  · rw [countUp_get] at e
    split at e
    · rename_i hi
      cases e
      refine ⟨hi, fun x H2 y => ?_⟩
      obtain ⟨rfl, rfl⟩ := y
      exact ⟨Stp.refl, R, .int _⟩
    · cases e
  · rw [countUp_len] at e
    exact e
theorem rrs_ints1 {H0 : Hp} {ι : List Addr} {H : Hp} {i : Int} {vs : List V} (g : RRs c H0 ι H [.v (.int i)] vs) : vs = [.int i] := by
  obtain ⟨v, rfl, w⟩ := rrs1 g
  rw [rw_int w]
theorem rrs_ints2 {H0 : Hp} {ι : List Addr} {H : Hp} {i j : Int} {vs : List V} (g : RRs c H0 ι H [.v (.int i), .v (.int j)] vs) : vs = [.int i, .int j] := by
  obtain ⟨v, w, rfl, h1, h2⟩ := rrs2 g
  rw [rw_int h1, rw_int h2]
def rngM (m : Env → Hm → Res (List RV)) : Env → Hm → Res Src := fun env h => (m env h).bind fun rs h1 => match rngOf rs with
  | some s => .ok s h1
  | none => .bad
theorem small62_ok {i : Int} (h : small62 i = true) : -(2 ^ 62) ≤ i ∧ i < 2 ^ 62 := by
  unfold small62 at h
  obtain ⟨h1, h2⟩ := Bool.and_eq_true_iff.mp h
  exact ⟨of_decide_eq_true h1, of_decide_eq_true h2⟩
theorem rng1 {m : Env → Hm → Res (List RV)} {σ : L2.St} {H : Hp} {R : It → Hp → Prop} (hm : ∀ env h rs h', m env h = .ok rs h' → rs.length = 1) (q : tI c W (rngM m) σ H R) : iRng1 (tEs c W m) σ H R := by
  obtain ⟨ι, env, h, re, rh, a⟩ := q
  refine ⟨ι, env, h, re, rh, ?_⟩
  cases e : m env h with
  | bad => unfold rngM at a; rw [e] at a; exact a
  | exc x h' => unfold rngM at a; rw [e] at a; exact a
  | ok rs h' =>
    have hl := hm env h rs h' e
    unfold rngM at a
    rw [e] at a
    intro ι1 H1 vs s1 R1 g
    have a1 := After.from (r := match rngOf rs with | some s => .ok s h' | none => .bad) a s1
    unfold rngOf at a1
    split at a1
    · rename_i s0 e0
      split at e0
      · rename_i n
        split at e0
        · rename_i hc
          cases e0
          obtain ⟨c1, c2⟩ := Bool.and_eq_true_iff.mp hc
          obtain ⟨b1, b2⟩ := small62_ok c1
          exact ⟨n, rrs_ints1 g, b1, b2, a1 ι1 H1 _ Stp.refl R1 (feed_range (of_decide_eq_true c2))⟩
        · cases e0
      · simp at hl
      · cases e0
    · exact a1.elim
theorem rng2 {m : Env → Hm → Res (List RV)} {σ : L2.St} {H : Hp} {R : It → Hp → Prop} (hm : ∀ env h rs h', m env h = .ok rs h' → rs.length = 2) (q : tI c W (rngM m) σ H R) : iRng2 (tEs c W m) σ H R := by
  obtain ⟨ι, env, h, re, rh, a⟩ := q
  refine ⟨ι, env, h, re, rh, ?_⟩
  cases e : m env h with
  | bad => unfold rngM at a; rw [e] at a; exact a
  | exc x h' => unfold rngM at a; rw [e] at a; exact a
  | ok rs h' =>
    have hl := hm env h rs h' e
    unfold rngM at a
    rw [e] at a
    intro ι1 H1 vs s1 R1 g
    have a1 := After.from (r := match rngOf rs with | some s => .ok s h' | none => .bad) a s1
    unfold rngOf at a1
    split at a1
    · rename_i s0 e0
      split at e0
      · simp at hl
      · rename_i x y
        split at e0
        · rename_i hc
          cases e0
          obtain ⟨c1, c2⟩ := Bool.and_eq_true_iff.mp hc
          obtain ⟨c3, c4⟩ := Bool.and_eq_true_iff.mp c1
          obtain ⟨b1, b2⟩ := small62_ok c3
          obtain ⟨b3, b4⟩ := small62_ok c4
          exact ⟨x, y, rrs_ints2 g, ⟨b1, b2, b3, b4⟩, a1 ι1 H1 _ Stp.refl R1 (feed_range (of_decide_eq_true c2))⟩
        · cases e0
      · cases e0
    · exact a1.elim
/-! ### enumerate, zip, reversed -/
theorem numbered_get : ∀ (xs : List D) (k i : Nat), (numbered k xs)[i]? = (xs[i]?).map fun d => .tup [.int ((k + i : Nat) : Int), d]
  | [], k, i => by simp [numbered]
  | x :: xs, k, 0 => by simp [numbered]
  | x :: xs, k, i + 1 => by
    show (numbered (k + 1) xs)[i]? = _
    rw [numbered_get xs (k + 1) i, show k + 1 + i = k + (i + 1) by omega]
    rfl
theorem numbered_len : ∀ (xs : List D) (k : Nat), (numbered k xs).length = xs.length
  | [], _ => rfl
  | _ :: xs, k => congrArg (· + 1) (numbered_len xs (k + 1))
theorem pairsUp_get : ∀ (xs ys : List D) (i : Nat) (d : D), (pairsUp xs ys)[i]? = some d → ∃ a b, xs[i]? = some a ∧ ys[i]? = some b ∧ d = .tup [a, b]
  | [], _, i, d, e => by simp [pairsUp] at e
  | _ :: _, [], i, d, e => by simp [pairsUp] at e
  | x :: xs, y :: ys, 0, d, e => by
    have e' : some (D.tup [x, y]) = some d := e
    cases e'
    exact ⟨x, y, rfl, rfl, rfl⟩
  | x :: xs, y :: ys, i + 1, d, e => pairsUp_get xs ys i d e
theorem pairsUp_len : ∀ (xs ys : List D), (pairsUp xs ys).length = min xs.length ys.length
  | [], _ => by simp [pairsUp]
  | _ :: _, [] => by simp [pairsUp]
  | _ :: xs, _ :: ys => by
    show (pairsUp xs ys).length + 1 = _
    rw [pairsUp_len xs ys]
    simp only [List.length_cons]
    omega
theorem feed_enum {ι : List Addr} {H : Hp} {xs : List D} {cs : List (Nat × O)} {a : Addr} (hl : xs.length ≤ sizeLine) (L : LW c ι H xs cs a) : Feed c ι H ⟨numbered 0 xs, cs⟩ (Ite c.K a) := by
  obtain ⟨L⟩ := L
  refine ⟨by rw [numbered_len]; exact hl, fun ι' H' h' i d s R hc e => ?_, fun ι' H' h' i s R hc e => ?_⟩
  · rw [numbered_get] at e
    obtain ⟨d0, e0, rfl⟩ := Option.map_eq_some_iff.mp e
    obtain ⟨vs, h1, d1⟩ := L ι' H' h' s R hc
    obtain ⟨v, e1, g⟩ := d1.get e0
    refine ⟨⟨vs, v, h1, e1⟩, fun x H2 y => ?_⟩
    obtain ⟨p, x1, rfl, np, rfl, y2⟩ := y
    have := y2 vs h1
    rw [e1] at this
    cases this
    refine ⟨Stp.upd np, R.upd np, .tup (SqT.of upd_same) (.cons ?_ (.cons (g.mono (Stp.upd np)) .nil))⟩
    rw [Nat.zero_add]
    exact .int _
  · obtain ⟨vs, h1, d1⟩ := L ι' H' h' s R hc
    rw [numbered_len] at e
    exact ⟨vs, h1, by rw [← d1.length]; exact e⟩
theorem feed_zip {ι : List Addr} {H : Hp} {xs ys : List D} {cs ds : List (Nat × O)} {a b : Addr} (hl : xs.length ≤ sizeLine) (L : LW c ι H xs cs a) (M : LW c ι H ys ds b) : Feed c ι H ⟨pairsUp xs ys, cs ++ ds⟩ (Itz c.K a b) := by
  obtain ⟨L⟩ := L
  obtain ⟨M⟩ := M
  refine ⟨by rw [pairsUp_len]; omega, fun ι' H' h' i d s R hc e => ?_, fun ι' H' h' i s R hc e => ?_⟩
  · obtain ⟨d0, d2, e0, e2, rfl⟩ := pairsUp_get _ _ _ _ e
    obtain ⟨vs, h1, g1⟩ := L ι' H' h' s R fun p m => hc p (List.mem_append_left _ m)
    obtain ⟨ws, h2, g2⟩ := M ι' H' h' s R fun p m => hc p (List.mem_append_right _ m)
    obtain ⟨v, e1, k1⟩ := g1.get e0
    obtain ⟨w, e3, k2⟩ := g2.get e2
    refine ⟨⟨vs, ws, v, w, h1, h2, e1, e3⟩, fun x H2 y => ?_⟩
    obtain ⟨p, x1, x2, rfl, np, rfl, y2, y3⟩ := y
    have t1 := y2 vs h1
    have t2 := y3 ws h2
    rw [e1] at t1
    rw [e3] at t2
    cases t1; cases t2
    exact ⟨Stp.upd np, R.upd np, .tup (SqT.of upd_same) (.cons (k1.mono (Stp.upd np)) (.cons (k2.mono (Stp.upd np)) .nil))⟩
  · obtain ⟨vs, h1, g1⟩ := L ι' H' h' s R fun p m => hc p (List.mem_append_left _ m)
    obtain ⟨ws, h2, g2⟩ := M ι' H' h' s R fun p m => hc p (List.mem_append_right _ m)
    rw [pairsUp_len] at e
    refine ⟨vs, ws, h1, h2, ?_⟩
    rw [← g1.length, ← g2.length]
    omega
theorem feed_zipT {ι : List Addr} {H : Hp} {xs ys : List D} {vs ws : List V} {a b : Addr} (hl : xs.length ≤ sizeLine) (h1 : SqT c.K H a vs) (d1 : RDs c ι H xs vs) (h2 : SqT c.K H b ws) (d2 : RDs c ι H ys ws) : Feed c ι H ⟨pairsUp xs ys, []⟩ (RZ.ItzT c.K a b) := by
  refine ⟨by rw [pairsUp_len]; omega, fun ι' H' h' i d s R hc e => ?_, fun ι' H' h' i s R hc e => ?_⟩
  · obtain ⟨d0, dd, e0, e2, rfl⟩ := pairsUp_get _ _ _ _ e
    obtain ⟨v, e1, k1⟩ := (d1.mono s).get e0
    obtain ⟨w, e3, k2⟩ := (d2.mono s).get e2
    refine ⟨⟨vs, ws, v, w, s.sqT h1, s.sqT h2, e1, e3⟩, fun x H2 y => ?_⟩
    obtain ⟨p, x1, x2, rfl, np, rfl, y2, y3⟩ := y
    have t1 := y2 vs (s.sqT h1)
    have t2 := y3 ws (s.sqT h2)
    rw [e1] at t1
    rw [e3] at t2
    cases t1; cases t2
    exact ⟨Stp.upd np, R.upd np, .tup (SqT.of upd_same) (.cons (k1.mono (Stp.upd np)) (.cons (k2.mono (Stp.upd np)) .nil))⟩
  · rw [pairsUp_len] at e
    refine ⟨vs, ws, s.sqT h1, s.sqT h2, ?_⟩
    rw [← d1.length, ← d2.length]
    omega
theorem feed_rev {ι : List Addr} {H : Hp} {xs : List D} {cs : List (Nat × O)} {a : Addr} (hl : xs.length ≤ sizeLine) (L : LW c ι H xs cs a) : Feed c ι H ⟨xs.reverse, cs⟩ (Itv c.K a xs.length) := by
  obtain ⟨L⟩ := L
  refine ⟨by rw [List.length_reverse]; exact hl, fun ι' H' h' i d s R hc e => ?_, fun ι' H' h' i s R hc e => ?_⟩
  · have hi : i < xs.length := by
      have := (List.getElem?_eq_some_iff.mp e).1
      rwa [List.length_reverse] at this
    rw [List.getElem?_reverse hi] at e
    obtain ⟨vs, h1, d1⟩ := L ι' H' h' s R hc
    obtain ⟨v, e1, g⟩ := d1.get e
    refine ⟨⟨hi, vs, v, h1, e1⟩, fun x H2 y => ?_⟩
    obtain ⟨rfl, y2⟩ := y
    have := y2 vs h1
    rw [e1] at this
    cases this
    exact ⟨Stp.refl, R, g⟩
  · rw [List.length_reverse] at e
    exact e
def enumM (m : Env → Hm → Res RV) : Env → Hm → Res Src := fun env h => (m env h).bind fun x h1 => match srcL x h1 with
  | some s => if s.items.length ≤ SL then .ok ⟨numbered 0 s.items, s.conds⟩ h1 else .bad
  | none => .bad
def revM (m : Env → Hm → Res RV) : Env → Hm → Res Src := fun env h => (m env h).bind fun x h1 => match srcL x h1 with
  | some s => if s.items.length ≤ SL then .ok ⟨s.items.reverse, s.conds⟩ h1 else .bad
  | none => .bad
def zipM (m m' : Env → Hm → Res RV) : Env → Hm → Res Src := fun env h => (m env h).bind fun x h1 => (m' env h1).bind fun y h2 => match srcL x h2, srcL y h2 with
  | some s, some t => if s.items.length ≤ SL then .ok ⟨pairsUp s.items t.items, s.conds ++ t.conds⟩ h2 else .bad
  | _, _ => .bad
def zipTM (m m' : Env → Hm → Res RV) : Env → Hm → Res Src := fun env h => (m env h).bind fun x h1 => (m' env h1).bind fun y h2 => match srcT x, srcT y with
  | some xs, some ys => if xs.length ≤ SL then .ok ⟨pairsUp xs ys, []⟩ h2 else .bad
  | _, _ => .bad
theorem srcT_ok {r : RV} {xs : List D} (e : srcT r = some xs) : r = .v (.tup xs) := by
  unfold srcT at e
  split at e
  · cases e; rfl
  · cases e
theorem srcL_hc {r : RV} {h : Hm} {s : Src} (e : srcL r h = some s) : HC s.conds h := by
  unfold srcL at e
  split at e
  · cases e; exact fun _ z => nomatch z
  · cases e; exact fun _ z => nomatch z
  · split at e
    · rename_i xs q
      cases e
      intro p m
      rw [List.mem_singleton.mp m]
      exact q
    · cases e
  · cases e
/-- one argument -/
theorem arg1 {e : Expr} {m : Env → Hm → Res RV} (he : PE X e (tE c W m)) (hs : starEach [e] X.env = [(false, eval e X.env)]) : PA X [e] (tCons (tE c W m) tNil) := pa_cons he pa_nil hs
theorem enum_rd (hK : X.K = c.K) {m : Env → Hm → Res RV} {σ : L2.St} {H : Hp} {R : It → Hp → Prop} (q : tI c W (enumM m) σ H R) : iEnum X.K (tCons (tE c W m) tNil) σ H R := by
  obtain ⟨ι, env, h, re, rh, a⟩ := q
  refine ⟨ι, env, h, re, rh, a.bind fun r h1 ι1 H1 v s1 R1 w a1 => ?_⟩
  cases q : srcL r h1 with
  | none => rw [q] at a1; exact a1.elim
  | some s =>
    rw [q] at a1
    dsimp only at a1
    split at a1
    · rename_i hl
      obtain ⟨p, rfl, L⟩ := srcL_ok (H0 := H1) R1 w.w q
      obtain ⟨vs, g1, d1⟩ := L.1 ι1 H1 h1 Stp.refl R1 (srcL_hc q)
      exact ⟨p, vs, rfl, hK ▸ g1, hK ▸ a1 ι1 H1 _ Stp.refl R1 (feed_enum (by rw [sl_eq]; exact hl) L)⟩
    · exact a1.elim
theorem rev_rd (hK : X.K = c.K) {m : Env → Hm → Res RV} {σ : L2.St} {H : Hp} {R : It → Hp → Prop} (q : tI c W (revM m) σ H R) : iRev X.K (tCons (tE c W m) tNil) σ H R := by
  obtain ⟨ι, env, h, re, rh, a⟩ := q
  refine ⟨ι, env, h, re, rh, a.bind fun r h1 ι1 H1 v s1 R1 w a1 => ?_⟩
  cases q : srcL r h1 with
  | none => rw [q] at a1; exact a1.elim
  | some s =>
    rw [q] at a1
    dsimp only at a1
    split at a1
    · rename_i hl
      obtain ⟨p, rfl, L⟩ := srcL_ok (H0 := H1) R1 w.w q
      obtain ⟨vs, g1, d1⟩ := L.1 ι1 H1 h1 Stp.refl R1 (srcL_hc q)
      refine ⟨p, vs, rfl, hK ▸ g1, ?_⟩
      rw [← d1.length]
      exact hK ▸ a1 ι1 H1 _ Stp.refl R1 (feed_rev (by rw [sl_eq]; exact hl) L)
    · exact a1.elim
theorem zip_rd (hK : X.K = c.K) {m m' : Env → Hm → Res RV} {σ : L2.St} {H : Hp} {R : It → Hp → Prop} (q : tI c W (zipM m m') σ H R) : iZip X.K (tCons (tE c W m) (tCons (tE c W m') tNil)) σ H R := by
  obtain ⟨ι, env, h, re, rh, a⟩ := q
  refine ⟨ι, env, h, re, rh, a.bind fun r h1 ι1 H1 v s1 R1 w a1 => ⟨ι1, env, h1, re.mono s1, R1, a1.bind fun r2 h2 ι2 H2 v2 s2 R2 w2 a2 => ?_⟩⟩
  cases q : srcL r h2 with
  | none => rw [q] at a2; exact a2.elim
  | some s =>
    cases q2 : srcL r2 h2 with
    | none => rw [q, q2] at a2; exact a2.elim
    | some t =>
      rw [q, q2] at a2
      dsimp only at a2
      split at a2
      · rename_i hl
        obtain ⟨p, rfl, L⟩ := srcL_ok (H0 := H2) R2 (w.mono s2).w q
        obtain ⟨p2, rfl, L2⟩ := srcL_ok (H0 := H2) R2 w2.w q2
        obtain ⟨vs, g1, d1⟩ := L.1 ι2 H2 h2 Stp.refl R2 (srcL_hc q)
        obtain ⟨ws, g2, d2⟩ := L2.1 ι2 H2 h2 Stp.refl R2 (srcL_hc q2)
        exact ⟨p, p2, vs, ws, rfl, hK ▸ g1, hK ▸ g2, hK ▸ a2 ι2 H2 _ Stp.refl R2 (feed_zip (by rw [sl_eq]; exact hl) L L2)⟩
      · exact a2.elim
theorem zipT_rd (hK : X.K = c.K) {m m' : Env → Hm → Res RV} {σ : L2.St} {H : Hp} {R : It → Hp → Prop} (q : tI c W (zipTM m m') σ H R) : RZ.iZipA X.K (tCons (tE c W m) (tCons (tE c W m') tNil)) σ H R := by
  obtain ⟨ι, env, h, re, rh, a⟩ := q
  refine ⟨ι, env, h, re, rh, a.bind fun r h1 ι1 H1 v s1 R1 w a1 => ⟨ι1, env, h1, re.mono s1, R1, a1.bind fun r2 h2 ι2 H2 v2 s2 R2 w2 a2 => ?_⟩⟩
  cases q : srcT r with
  | none => rw [q] at a2; exact a2.elim
  | some s =>
    cases q2 : srcT r2 with
    | none => rw [q, q2] at a2; exact a2.elim
    | some t =>
      rw [q, q2] at a2
      dsimp only at a2
      split at a2
      · rename_i hl
        rw [srcT_ok q] at w
        rw [srcT_ok q2] at w2
        obtain ⟨p, vs, rfl, g1, d1⟩ := rw_tup w
        obtain ⟨p2, ws, rfl, g2, d2⟩ := rw_tup w2.w
        have g1 := s2.sqT g1
        have d1 := d1.mono s2
        exact ⟨p, p2, vs, ws, rfl, .inr ⟨hK ▸ g1, hK ▸ g2, hK ▸ a2 ι2 H2 _ Stp.refl R2 (feed_zipT (by rw [sl_eq]; exact hl) g1 d1 g2 d2)⟩⟩
      · exact a2.elim
/-! ### comprehensions -/
theorem wipe_len (σ : L2.St) : ∀ vs, (L2.wipe σ vs).length = σ.length := L2.wipe_length σ
theorem wipe_mem {σ : L2.St} {i : Nat} : ∀ {vs : List Nat}, i ∈ vs → (L2.wipe σ vs).set i none = L2.wipe σ vs
  | [], m => by cases m
  | j :: vs, m => by
    show ((L2.wipe σ vs).set j none).set i none = (L2.wipe σ vs).set j none
    by_cases e : i = j
    · rw [e, List.set_set]
    · have m2 : i ∈ vs := by
        rcases List.mem_cons.mp m with z | z
        · exact absurd z e
        · exact z
      rw [List.set_comm _ _ (Ne.symm e), wipe_mem m2]
theorem wipe_wipe {σ : L2.St} {ws : List Nat} : ∀ {vs : List Nat}, (∀ i ∈ vs, i ∈ ws) → L2.wipe (L2.wipe σ ws) vs = L2.wipe σ ws
  | [], _ => rfl
  | j :: vs, h => by
    show (L2.wipe (L2.wipe σ ws) vs).set j none = _
    rw [wipe_wipe fun i hi => h i (List.mem_cons_of_mem _ hi), wipe_mem (h j List.mem_cons_self)]
def tTs (c : Cn) (W : WX) (m : Env → Hm → Res Bool) : TT := fun σ H Q => ∃ ι env h, RE c ι H env σ ∧ RH c ι H h ∧ After c ι H (m env h) (fun _ _ k b => k = b) Q fun e H' => W (c.X e) none σ H'
def stepM (t : MT) (own : List Nat) (mT : Env → Hm → Res Bool) (me : Env → Hm → Res RV) (env : Env) : D → Hm → Res (Option D) := fun x h2 => match tgF t x (MP.wipe env own) with
  | some σ1 => (mT σ1 h2).bind fun k h3 => match k with
    | true => (me σ1 h3).bind fun r h4 => .ok (some (r.box h4).1) (r.box h4).2
    | false => .ok none h3
  | none => .bad
abbrev WF : WX := fun _ _ _ _ => False
theorem compL_cons {step : D → Hm → Res (Option D)} {cs : List (Nat × O)} {x : D} {xs : List D} {h h' : Hm} {ds : List D} (e : compL step cs (x :: xs) h = .ok ds h') :
    HC cs h ∧ ∃ r h1 es, step x h = .ok r h1 ∧ compL step cs xs h1 = .ok es h' ∧ ds = r.toList ++ es := by
  unfold compL at e
  split at e
  · rename_i hc
    refine ⟨hc, ?_⟩
    split at e
    · rename_i r h1 q
      split at e
      · rename_i es h2 q2
        cases e
        exact ⟨r, h1, es, q, q2, rfl⟩
      · cases e
    · cases e
  · cases e
theorem compL_nil {step : D → Hm → Res (Option D)} {cs : List (Nat × O)} {h h' : Hm} {ds : List D} (e : compL step cs [] h = .ok ds h') : HC cs h ∧ ds = [] ∧ h' = h := by
  unfold compL at e
  split at e
  · rename_i hc
    cases e
    exact ⟨hc, rfl, rfl⟩
  · cases e
theorem stepM_ok {t : MT} {own : List Nat} {mT : Env → Hm → Res Bool} {me : Env → Hm → Res RV} {env : Env} {x : D} {h h' : Hm} {r : Option D} (e : stepM t own mT me env x h = .ok r h') :
    ∃ env1 k h3, tgF t x (MP.wipe env own) = some env1 ∧ mT env1 h = .ok k h3 ∧ ((k = true ∧ ∃ rv h4, me env1 h3 = .ok rv h4 ∧ r = some (rv.box h4).1 ∧ h' = (rv.box h4).2) ∨ (k = false ∧ r = none ∧ h' = h3)) := by
  unfold stepM at e
  split at e
  · rename_i env1 q
    cases q2 : mT env1 h with
    | bad => rw [q2] at e; cases e
    | exc c h2 => rw [q2] at e; cases e
    | ok k h3 =>
      rw [q2] at e
      cases k with
      | false =>
        cases e
        exact ⟨env1, false, _, q, q2, .inr ⟨rfl, rfl, rfl⟩⟩
      | true =>
        cases q3 : me env1 h3 with
        | bad => rw [Res.bind_ok] at e; dsimp only at e; rw [q3] at e; cases e
        | exc c h2 => rw [Res.bind_ok] at e; dsimp only at e; rw [q3] at e; cases e
        | ok rv h4 =>
          rw [Res.bind_ok] at e
          dsimp only at e
          rw [q3] at e
          cases e
          exact ⟨env1, true, h3, q, q2, .inl ⟨rfl, rv, h4, q3, rfl, rfl⟩⟩
  · cases e
theorem comp_rd {mI : Env → Hm → Res Src} {t : MT} {own : List Nat} {mT : Env → Hm → Res Bool} {me : Env → Hm → Res RV} (ht : ∀ i ∈ t.slots, i ∈ own) {σ : L2.St} {H : Hp} {Q : VK}
    (q : tE c W (fun env h => (mI env h).bind fun s h1 => (compL (stepM t own mT me env) s.conds s.items h1).bind fun ds h2 => .ok (.l ds) h2) σ H Q) :
    tLc (tI c W mI) (gM c t) (tTs c WF mT) (tE c WF me) own σ H Q := by
  obtain ⟨ι, env, h, re, rh, a⟩ := q
  refine ⟨ι, env, h, re, rh, a.bind fun s h1 ι1 H1 J s1 R1 F a1 Dd nD => ?_⟩
  have re1 := re.mono s1
  cases hq : compL (stepM t own mT me env) s.conds s.items h1 with
  | bad => rw [hq] at a1; exact a1.elim
  | exc x hx =>
    exfalso
    cases hs : s.items with
    | nil => rw [hs] at hq; unfold compL at hq; split at hq <;> cases hq
    | cons x xs =>
      rw [hs] at hq
      unfold compL at hq
      split at hq
      · split at hq
        · split at hq <;> cases hq
        · cases hq
      · cases hq
  | ok ds h2 =>
    rw [hq, Res.bind_ok] at a1
    refine ⟨fun i m H => m = s.items.length - i ∧ i ≤ s.items.length ∧ ∃ ι h dn acc es, Stp ι1 H1 ι H ∧ RH c ι H h ∧ Dd ∉ ι ∧ H Dd = some (.lst acc) ∧ RDs c ι H dn acc ∧ dn.length ≤ i ∧
      compL (stepM t own mT me env) s.conds (s.items.drop i) h = .ok es h2 ∧ ds = dn ++ es, ⟨s.items.length, rfl, Nat.zero_le _, ι1, h1, [], [], ds, Stp.upd nD, R1.upd nD, R1.notIn nD, upd_same, .nil, Nat.le_refl _, hq, rfl⟩, ?_⟩
    rintro i m H5 ⟨rfl, hi, ι5, h5, dn, acc, es, s5, R5, nd5, hD5, g5, ln, e5, rfl⟩
    by_cases hlt : i < s.items.length
    · have e0 : s.items[i]? = some s.items[i] := List.getElem?_eq_getElem hlt
      rw [List.drop_eq_getElem_cons hlt] at e5
      obtain ⟨hc, r, h6, es2, q1, q2, rfl⟩ := compL_cons e5
      obtain ⟨go, yl⟩ := F.go ι5 H5 h5 i _ s5 R5 hc e0
      obtain ⟨env1, kk, h7, t1, t2, t3⟩ := stepM_ok q1
      refine .inr ⟨go, fun H9 => ∃ ι h acc2, Stp ι1 H1 ι H9 ∧ RH c ι H9 h6 ∧ Dd ∉ ι ∧ H9 Dd = some (.lst acc2) ∧ RDs c ι H9 (dn ++ r.toList) acc2 ∧ h = h6, fun H9 ⟨ι9, h9, acc2, k1, k2, k3, k4, k5, k6⟩ => ?_, fun x H6 y => ?_⟩
      · refine ⟨s.items.length - (i + 1), by omega, rfl, by omega, ι9, h6, dn ++ r.toList, acc2, es2, k1, k2, k3, k4, k5, ?_, q2, by rw [List.append_assoc]⟩
        rw [List.length_append]
        have : r.toList.length ≤ 1 := by cases r <;> simp
        omega
      · obtain ⟨s6, R6, g6⟩ := yl x H6 y
        have hD6 : H6 Dd = some (.lst acc) := s6.keep Dd _ nd5 hD5 (fun _ z => nomatch z)
        have s16 := s5.trans s6
        refine ⟨ι5, _, MP.wipe env own, env1, g6, (re1.mono s16).wipe own, t1, fun σ2 r2 w2 => ⟨?_, ?_⟩⟩
        · rw [w2 own ht, wipe_wipe fun i hi => hi]
        · refine ⟨ι5, env1, h5, r2, R6, ?_⟩
          rw [t2]
          intro ι7 H7 b s7 R7 eb
          subst eb
          have hD7 : H7 Dd = some (.lst acc) := s7.keep Dd _ nd5 hD6 (fun _ z => nomatch z)
          have nd7 : Dd ∉ ι7 := fun m => by
            have := s7.new Dd m nd5
            rw [hD6] at this; cases this
          rcases t3 with ⟨rfl, rv, h8, t4, rfl, rfl⟩ | ⟨rfl, rfl, rfl⟩
          · rw [if_pos rfl]
            refine ⟨ι7, env1, h7, r2.mono s7, R7, ?_⟩
            rw [t4]
            intro ι8 H8 y8 s8 R8 w8
            have hD8 : H8 Dd = some (.lst acc) := s8.keep Dd _ nd7 hD7 (fun _ z => nomatch z)
            have nd8 : Dd ∉ ι8 := fun m => by
              have := s8.new Dd m nd7
              rw [hD7] at this; cases this
            obtain ⟨ι9, e9, s9, R9, g9, k9⟩ := RR.box s8 R8 w8
            have nd9 : Dd ∉ ι9 := fun m => by
              rcases k9 Dd m with z | ⟨xs, z1, z2⟩
              · exact nd8 z
              · subst z1 z2
                obtain ⟨a8, vs8, e8, _, _, z8, _⟩ := w8
                cases e8
                rw [hD7] at z8; cases z8
            have s19 : Stp ι1 H1 ι9 H8 := (s16.trans s7).trans s9
            have per : Per ι9 H8 (upd H8 Dd (.lst (acc ++ [y8]))) := Per.upd hD8
            refine ⟨acc, hD8, ?_, ι9, (rv.box h8).2, acc ++ [y8], s19.tmp nD nd9 hD8, R9.per per fun a m => upd_ne fun z => nd9 (z ▸ m), nd9, upd_same, ?_, rfl⟩
            · rw [← g5.length]
              have := F.len
              omega
            · have g5' : RDs c ι9 H8 dn acc := ((((g5.mono s6).mono s7).mono s8).ext e9)
              exact (g5'.append (.one g9)).per per
          · rw [if_neg Bool.false_ne_true]
            refine ⟨ι7, _, acc, s16.trans s7, R7, nd7, hD7, ?_, rfl⟩
            simp only [Option.toList, List.append_nil]
            exact (g5.mono s6).mono s7
    · have hi' : i = s.items.length := by omega
      subst hi'
      rw [List.drop_length] at e5
      obtain ⟨hc, rfl, rfl⟩ := compL_nil e5
      rw [List.append_nil] at a1
      exact .inl ⟨F.stop ι5 H5 h2 _ s5 R5 hc (Nat.le_refl _), a1 ι5 H5 _ s5 R5 ⟨Dd, acc, rfl, hD5, nd5, s1.dom Dd nD, g5⟩⟩
/-- the list's length is within the line: by the state -/
theorem pi_lenOf {tg e : Expr} {W1 : TI} (h : PI X tg e W1) {W2 : TI} (k : ∀ σ H R, W2 σ H R → (∀ pins s, L2.Inv X pins σ H s → W1 σ H R)) : PI X tg e W2 := ⟨fun pins s σ H R I q => h.run pins s σ H R I (k σ H R q pins s I)⟩
end
end MP

/-! MP4c: steps of expressions. -/
namespace MP
open PySem PySem.Spec PyProof.Rows L2
section
variable {X : Cx} {c : Cn} {N : List Str} {sc : Scope} {ac : Str → Bool} {k : Nat} {T : Tb} {G : Nat → D} {cf : Nat → List D → Hm → Res D} {W : WX}
/-- both readings of an expression -/
def SE (X : Cx) (c : Cn) (W : WX) (e : Expr) (m : Env → Hm → Res RV) : Prop := PE X e (tE c W m) ∧ PT X e (tT c W m)
theorem pe_weaken {e : Expr} {t t' : TE} (h : PE X e t) (w : ∀ σ H Q, t' σ H Q → t σ H Q) : PE X e t' := ⟨fun pins s σ H Q I q => h.run pins s σ H Q I (w σ H Q q)⟩
theorem pt_weaken {e : Expr} {t t' : TT} (h : PT X e t) (w : ∀ σ H Q, t' σ H Q → t σ H Q) : PT X e t' := ⟨fun pins s σ H Q I q => h.run pins s σ H Q I (w σ H Q q)⟩
theorem pa_weaken {es : List Expr} {t t' : TA} (h : PA X es t) (w : ∀ σ H Q, t' σ H Q → t σ H Q) : PA X es t' := ⟨fun pos pins s σ H Q I q => h.run pos pins s σ H Q I (w σ H Q q)⟩
/-- a test's reading from the value's -/
theorem tT_tB {m : Env → Hm → Res RV} {σ : L2.St} {H : Hp} {Q : Bool → Hp → Prop} (q : tT c W m σ H Q) : tB (tE c W m) σ H Q := by
  obtain ⟨ι, env, h, re, rh, hb, a⟩ := q
  refine ⟨ι, env, h, re, rh, ?_⟩
  cases e : m env h with
  | bad => rw [e] at a; exact a
  | exc x h' => rw [e] at a; exact a
  | ok r h' =>
    obtain ⟨b, rfl⟩ := hb r h' e
    rw [e] at a
    intro ι' H' v s R w
    cases w
    exact ⟨b, rfl, a ι' H' b s R rfl⟩
theorem tT_tTest {m : Env → Hm → Res RV} {σ : L2.St} {H : Hp} {Q : Bool → Hp → Prop} (q : tT c W m σ H Q) : tTest (tE c W m) σ H Q := by
  obtain ⟨ι, env, h, re, rh, hb, a⟩ := q
  refine ⟨ι, env, h, re, rh, ?_⟩
  cases e : m env h with
  | bad => rw [e] at a; exact a
  | exc x h' => rw [e] at a; exact a
  | ok r h' =>
    obtain ⟨b, rfl⟩ := hb r h' e
    rw [e] at a
    intro ι' H' v s R w
    cases w
    exact ⟨b, rfl, a ι' H' b s R rfl⟩
theorem se_val {e : Expr} {m : Env → Hm → Res RV} (h : PE X e (tE c W m)) (he : ∀ whole, isTrue e X.env whole = (do let v ← whole; standAt e.pos; holding [v] (truthy v))) : SE X c W e m :=
  ⟨h, pt_weaken (pt_val h he) fun σ H Q q => tT_tB q⟩
/-- two steps, then an operation -/
theorem bin_rd {ma mb : Env → Hm → Res RV} {f : RV → RV → Hm → Res RV} {σ : L2.St} {H : Hp} {Q : VK} (nx : ∀ r s h c h', f r s h ≠ .exc c h')
    (q : tE c W (fun env h => (ma env h).bind fun x h1 => (mb env h1).bind fun y h2 => f x y h2) σ H Q) : tOp (rB c f) (tE c W ma) (tE c W mb) σ H Q := by
  obtain ⟨ι, env, h, re, rh, a⟩ := q
  refine ⟨ι, env, h, re, rh, a.bind fun r h1 ι1 H1 v s1 R1 w a1 => ⟨ι1, env, h1, re.mono s1, R1, a1.bind fun r2 h2 ι2 H2 v2 s2 R2 w2 a2 => ?_⟩⟩
  refine ⟨ι2, h2, r, r2, R2, (w.mono s2).w, w2.w, ?_⟩
  cases e : f r r2 h2 with
  | bad => rw [e] at a2; exact a2
  | exc x h' => exact absurd e (nx _ _ _ _ _)
  | ok r3 h3 =>
    rw [e] at a2
    exact fun ι' H' v3 s3 R3 w3 => a2 ι' H' v3 s3 R3 (w3.base fun b n => s1.dom b (s2.dom b n))
theorem bop_nx (op : BOp) : ∀ r s h c h', bopF op r s h ≠ .exc c h' := by
  intro r s h c h'
  unfold bopF
  split <;> (try split) <;> (try split) <;> intro z <;> cases z
theorem cop_nx (op : COp) : ∀ r s h c h', copF op r s h ≠ .exc c h' := by
  intro r s h c h'
  unfold copF
  split <;> intro z <;> cases z
theorem ix_nx : ∀ r s h c h', ixF r s h ≠ .exc c h' := by
  intro r s h c h'
  unfold ixF
  split <;> (try split) <;> (try split) <;> (try split) <;> intro z <;> cases z
theorem cop_bl {op : COp} {r s : RV} {h h' : Hm} {x : RV} (e : copF op r s h = .ok x h') : ∃ b, x = .v (.bl b) := by
  unfold copF at e
  split at e
  · cases e; exact ⟨_, rfl⟩
  · cases e
theorem se_bin {op : BOp} {a b : Expr} {ma mb : Env → Hm → Res RV} {pos : Pos} (C : Cok X c N sc ac k T G cf W) (ha : PE X a (tE c W ma)) (hb : PE X b (tE c W mb)) :
    SE X c W (.BinOp a op.op b pos) fun env h => (ma env h).bind fun x h1 => (mb env h1).bind fun y h2 => bopF op x y h2 :=
  se_val (pe_weaken (pe_op (op_bin C.K op) ha hb) fun σ H Q q => bin_rd (bop_nx op) q) (by intro _; rfl)
theorem se_ix {a b : Expr} {ma mb : Env → Hm → Res RV} {pos : Pos} (C : Cok X c N sc ac k T G cf W) (ha : PE X a (tE c W ma)) (hb : PE X b (tE c W mb)) (hs : PlainIx b) :
    SE X c W (.Subscript a b pos) fun env h => (ma env h).bind fun x h1 => (mb env h1).bind fun y h2 => ixF x y h2 :=
  se_val (pe_weaken (pe_ix (ix_ok C.K C.hu) ha hb hs) fun σ H Q q => bin_rd ix_nx q) (by intro _; rfl)
theorem se_cmp {op : COp} {a b : Expr} {ma mb : Env → Hm → Res RV} {pos : Pos} (C : Cok X c N sc ac k T G cf W) (ha : PE X a (tE c W ma)) (hb : PE X b (tE c W mb)) (hm : behindInMarks op.op b = false) :
    SE X c W (.Compare a [op.op] [b] pos) fun env h => (ma env h).bind fun x h1 => (mb env h1).bind fun y h2 => copF op x y h2 := by
  refine ⟨pe_weaken (pe_cmpR (op_cmp C.K C.hu op) ha hb hm) fun σ H Q q => bin_rd (cop_nx op) q, pt_weaken (pt_cmpR (op_cmp C.K C.hu op) ha hb hm) fun σ H Q q => ?_⟩
  exact bin_rd (cop_nx op) (tT_tTest q)
theorem chain_rd {o1 o2 : COp} {ma mb mc : Env → Hm → Res RV} {σ : L2.St} {H : Hp} {Q : VK}
    (q : tE c W (fun env h => (ma env h).bind fun x h1 => (mb env h1).bind fun y h2 => (copF o1 x y h2).bind fun r h3 => match r with
      | .v (.bl true) => (mc env h3).bind fun z h4 => copF o2 y z h4
      | .v (.bl false) => ok1 (.bl false) h3
      | _ => .bad) σ H Q) : tChain (rB c (copF o1)) (rB c (copF o2)) (tE c W ma) (tE c W mb) (tE c W mc) σ H Q := by
  obtain ⟨ι, env, h, re, rh, a⟩ := q
  refine ⟨ι, env, h, re, rh, a.bind fun r h1 ι1 H1 v s1 R1 w a1 => ⟨ι1, env, h1, re.mono s1, R1, a1.bind fun r2 h2 ι2 H2 v2 s2 R2 w2 a2 => ?_⟩⟩
  refine ⟨ι2, h2, r, r2, R2, (w.mono s2).w, w2.w, ?_⟩
  cases e : copF o1 r r2 h2 with
  | bad => rw [e] at a2; exact a2
  | exc x h' => exact absurd e (cop_nx _ _ _ _ _ _)
  | ok r3 h3 =>
    obtain ⟨b, rfl⟩ := cop_bl e
    rw [e, Res.bind_ok] at a2
    intro ι3 H3 v3 s3 R3 w3
    cases w3
    refine ⟨b, rfl, ?_⟩
    have a3 := After.from (r := (match RV.v (.bl b) with
      | .v (.bl true) => (mc env h3).bind fun z h4 => copF o2 r2 z h4
      | .v (.bl false) => ok1 (.bl false) h3
      | _ => .bad)) a2 s3
    cases b with
    | false =>
      rw [if_neg Bool.false_ne_true]
      exact a3 ι3 H3 _ Stp.refl R3 (.bl false)
    | true =>
      rw [if_pos rfl]
      refine ⟨ι3, env, h3, ((re.mono s1).mono s2).mono s3, R3, After.bind (r := mc env h3) (f := fun z h4 => copF o2 r2 z h4) a3 fun r4 h4 ι4 H4 v4 s4 R4 w4 a4 => ?_⟩
      refine ⟨ι4, h4, r2, r4, R4, ((w2.mono s3).mono s4).w, w4.w, ?_⟩
      cases e4 : copF o2 r2 r4 h4 with
      | bad => rw [e4] at a4; exact a4
      | exc x h' => exact absurd e4 (cop_nx _ _ _ _ _ _)
      | ok r5 h5 =>
        rw [e4] at a4
        exact fun ι' H' v5 s5 R5 w5 => a4 ι' H' v5 s5 R5 (w5.base fun b n => s1.dom b (s2.dom b (s3.dom b (s4.dom b n))))
theorem se_chain {o1 o2 : COp} {a b d : Expr} {ma mb mc : Env → Hm → Res RV} {pos : Pos} (C : Cok X c N sc ac k T G cf W) (ha : PE X a (tE c W ma)) (hb : PE X b (tE c W mb)) (hc : PE X d (tE c W mc)) (hm : lastMarks [o1.op, o2.op] [b, d] = false) :
    SE X c W (.Compare a [o1.op, o2.op] [b, d] pos) fun env h => (ma env h).bind fun x h1 => (mb env h1).bind fun y h2 => (copF o1 x y h2).bind fun r h3 => match r with
      | .v (.bl true) => (mc env h3).bind fun z h4 => copF o2 y z h4
      | .v (.bl false) => ok1 (.bl false) h3
      | _ => .bad := by
  refine ⟨pe_weaken (pe_chain (op_cmp C.K C.hu o1) (op_cmp C.K C.hu o2) ha hb hc hm) fun σ H Q q => chain_rd q, pt_weaken (pt_chain (op_cmp C.K C.hu o1) (op_cmp C.K C.hu o2) ha hb hc hm) fun σ H Q q => ?_⟩
  exact chain_rd (tT_tTest q)
/-- one step, then something of its value -/
theorem un_rd {ma : Env → Hm → Res RV} {f : RV → Hm → Res RV} {σ : L2.St} {H : Hp} {Q : VK} (q : tE c W (fun env h => (ma env h).bind f) σ H Q) :
    tE c W ma σ H fun x H1 => ∃ ι h r, RH c ι H1 h ∧ RW c ι H1 r x ∧ After c ι H1 (f r h) (RR c H1) Q fun e H' => W (c.X e) none σ H' := by
  obtain ⟨ι, env, h, re, rh, a⟩ := q
  refine ⟨ι, env, h, re, rh, a.bind fun r h1 ι1 H1 v s1 R1 w a1 => ⟨ι1, h1, r, R1, w.w, a1.mono (fun ι' H' x y s z => z.base s1.dom) fun _ _ q => q⟩⟩
theorem se_neg {a : Expr} {ma : Env → Hm → Res RV} {pos : Pos} (ha : PE X a (tE c W ma)) :
    SE X c W (.UnaryOp .USub a pos) fun env h => (ma env h).bind fun x h1 => match x with
      | .v (.int i) => ok1 (.int (-i)) h1
      | _ => .bad := by
  refine se_val (pe_weaken (pe_un un_neg ha) fun σ H Q q => ?_) (by intro _; rfl)
  obtain ⟨ι, env, h, re, rh, a⟩ := un_rd q
  refine ⟨ι, env, h, re, rh, a.mono (fun _ _ _ _ _ z => z) fun x H1 ⟨ι1, h1, r, R1, w, a1⟩ => ?_⟩
  split at a1
  · cases rw_int w
    exact ⟨_, rfl, end1 a1 R1 (.int _)⟩
  · exact a1.elim
def isNonR : RV → Bool
  | .v .non => true
  | _ => false
theorem isn_dec {ι : List Addr} {H : Hp} {r : RV} {x : V} (w : RW c ι H r x) : decide (x = .non) = isNonR r := by
  cases r with
  | l xs =>
    obtain ⟨a, vs, rfl, _⟩ := w
    exact decide_eq_false (fun z => by cases z)
  | v d =>
    cases w with
    | non => rfl
    | _ => exact decide_eq_false (fun z => by cases z)
def isnF (neg : Bool) (r : RV) (h : Hm) : Res RV := match r with
  | .v .non => ok1 (.bl (!neg)) h
  | _ => ok1 (.bl neg) h
theorem isnF_eq (neg : Bool) (r : RV) (h : Hm) : isnF neg r h = ok1 (.bl (if neg then !isNonR r else isNonR r)) h := by
  unfold isnF isNonR
  split <;> cases neg <;> rfl
theorem isn_rd {neg : Bool} {ι : List Addr} {H H0 : Hp} {h : Hm} {r : RV} {x : V} {Q : VK} {W' : Nat → Hp → Prop} (w : RW c ι H r x) (R : RH c ι H h)
    (a : After c ι H (isnF neg r h) (RR c H0) Q W') : Q (.bl (if neg then !decide (x = .non) else decide (x = .non))) H := by
  rw [isn_dec w]
  rw [isnF_eq] at a
  exact end1 a R (.bl _)
theorem se_isn {neg : Bool} {a : Expr} {ma : Env → Hm → Res RV} {j : Nat} {p pos : Pos} (ha : PE X a (tE c W ma)) :
    SE X c W (.Compare a [if neg then .IsNot else .Is] [.Constant .none j p] pos) fun env h => (ma env h).bind fun x h1 => match x with
      | .v .non => ok1 (.bl (!neg)) h1
      | _ => ok1 (.bl neg) h1 := by
  cases neg with
  | false =>
    refine ⟨pe_weaken (pe_cmp (pc_isN ha)) fun σ H Q q => ?_, pt_weaken (pt_cmp (pc_isN ha)) fun σ H Q q => ?_⟩
    · obtain ⟨ι, env, h, re, rh, a⟩ := un_rd q
      exact ⟨ι, env, h, re, rh, a.mono (fun _ _ _ _ _ z => z) fun x H1 ⟨ι1, h1, r, R1, w, a1⟩ => isn_rd (neg := false) w R1 a1⟩
    · obtain ⟨ι, env, h, re, rh, a⟩ := un_rd (tT_tB q)
      exact ⟨ι, env, h, re, rh, a.mono (fun _ _ _ _ _ z => z) fun x H1 ⟨ι1, h1, r, R1, w, a1⟩ => isn_rd (neg := false) w R1 a1⟩
  | true =>
    refine ⟨pe_weaken (pe_cmp (pc_notN ha)) fun σ H Q q => ?_, pt_weaken (pt_cmp (pc_notN ha)) fun σ H Q q => ?_⟩
    · obtain ⟨ι, env, h, re, rh, a⟩ := un_rd q
      exact ⟨ι, env, h, re, rh, a.mono (fun _ _ _ _ _ z => z) fun x H1 ⟨ι1, h1, r, R1, w, a1⟩ => isn_rd (neg := true) w R1 a1⟩
    · obtain ⟨ι, env, h, re, rh, a⟩ := un_rd (tT_tB q)
      exact ⟨ι, env, h, re, rh, a.mono (fun _ _ _ _ _ z => z) fun x H1 ⟨ι1, h1, r, R1, w, a1⟩ => isn_rd (neg := true) w R1 a1⟩
/-! ### tests -/
def tstM (m : Env → Hm → Res RV) (env : Env) (h : Hm) : Res Bool := (m env h).bind fun x h1 => match x with
  | .v (.bl b) => .ok b h1
  | _ => .bad
/-- a test's step, as a step that gives a bool -/
theorem tT_of {m : Env → Hm → Res RV} {σ : L2.St} {H : Hp} {Q : Bool → Hp → Prop} {ι : List Addr} {env : Env} {h : Hm} (re : RE c ι H env σ) (rh : RH c ι H h)
    (a : After c ι H (tstM m env h) (fun _ _ (k b : Bool) => k = b) Q fun e H' => W (c.X e) none σ H') : tT c W m σ H Q := by
  refine ⟨ι, env, h, re, rh, fun r h' e => ?_, ?_⟩
  · unfold tstM at a
    rw [e, Res.bind_ok] at a
    split at a
    · exact ⟨_, rfl⟩
    · exact a.elim
  · unfold tstM at a
    cases e : m env h with
    | bad => rw [e] at a; exact a
    | exc x h' => rw [e] at a; exact a
    | ok r h' =>
      rw [e, Res.bind_ok] at a
      split at a
      · intro ι' H' v s R w
        exact a ι' H' v s R (by cases w; rfl)
      · exact a.elim
/-- the next steps behind a test -/
theorem tT_next {ma : Env → Hm → Res RV} {f : RV → Hm → Res RV} {σ : L2.St} {H : Hp} {Q : VK} {Q1 : Bool → Hp → Prop} (hf : ∀ r h r' h', f r h = .ok r' h' → ∃ b, r = .v (.bl b)) (hx : ∀ r h e h', f r h = .exc e h' → ∃ b, r = .v (.bl b))
    (q : tE c W (fun env h => (ma env h).bind f) σ H Q)
    (kk : ∀ b ι1 env h1 H1, RE c ι1 H1 env σ → RH c ι1 H1 h1 → After c ι1 H1 (f (.v (.bl b)) h1) (RR c H1) Q (fun e H' => W (c.X e) none σ H') → Q1 b H1) : tT c W ma σ H Q1 := by
  obtain ⟨ι, env, h, re, rh, a⟩ := q
  dsimp only at a
  refine tT_of re rh ?_
  unfold tstM
  cases e : ma env h with
  | bad => rw [e] at a; exact a
  | exc x h' => rw [e] at a; exact a
  | ok r h' =>
    rw [e, Res.bind_ok] at a
    rw [Res.bind_ok]
    have hb : ∃ b, r = .v (.bl b) := by
      cases e2 : f r h' with
      | bad => rw [e2] at a; exact a.elim
      | exc x h2 => exact hx _ _ _ _ e2
      | ok r2 h2 => exact hf _ _ _ _ e2
    obtain ⟨b, rfl⟩ := hb
    intro ι1 H1 v s1 R1 w
    subst w
    exact kk b ι1 env h' H1 (re.mono s1) R1 ((After.from (r := f (.v (.bl b)) h') a s1).mono (fun ι' H' x y s z => z.base s1.dom) fun _ _ q => q)
/-- the same for what is a test again -/
theorem tT_nextT {ma : Env → Hm → Res RV} {f : RV → Hm → Res RV} {σ : L2.St} {H : Hp} {Q : Bool → Hp → Prop} {Q1 : Bool → Hp → Prop} (hf : ∀ r h r' h', f r h = .ok r' h' → ∃ b, r = .v (.bl b)) (hx : ∀ r h e h', f r h = .exc e h' → ∃ b, r = .v (.bl b))
    (q : tT c W (fun env h => (ma env h).bind f) σ H Q)
    (kk : ∀ b ι1 env h1 H1, RE c ι1 H1 env σ → RH c ι1 H1 h1 → (∀ r h', f (.v (.bl b)) h1 = .ok r h' → ∃ b', r = .v (.bl b')) → After c ι1 H1 (f (.v (.bl b)) h1) RB Q (fun e H' => W (c.X e) none σ H') → Q1 b H1) : tT c W ma σ H Q1 := by
  obtain ⟨ι, env, h, re, rh, hb0, a⟩ := q
  dsimp only at a hb0
  refine tT_of re rh ?_
  unfold tstM
  cases e : ma env h with
  | bad => rw [e] at a; exact a
  | exc x h' => rw [e] at a; exact a
  | ok r h' =>
    have hb1 := hb0
    rw [e] at hb1
    rw [e, Res.bind_ok] at a
    rw [Res.bind_ok]
    have hb : ∃ b, r = .v (.bl b) := by
      cases e2 : f r h' with
      | bad => rw [e2] at a; exact a.elim
      | exc x h2 => exact hx _ _ _ _ e2
      | ok r2 h2 => exact hf _ _ _ _ e2
    obtain ⟨b, rfl⟩ := hb
    intro ι1 H1 v s1 R1 w
    subst w
    exact kk b ι1 env h' H1 (re.mono s1) R1 (fun r2 h2 e2 => hb1 r2 h2 e2) (After.from (r := f (.v (.bl b)) h') a s1)
end
end MP

/-! MP4d: and, or, not, if, names, constants, argument lists, calls. -/
namespace MP
open PySem PySem.Spec PyProof.Rows L2
section
variable {X : Cx} {c : Cn} {N : List Str} {sc : Scope} {ac : Str → Bool} {k : Nat} {T : Tb} {G : Nat → D} {cf : Nat → List D → Hm → Res D} {W : WX}
def isBO (e : Expr) : Bool := match e with
  | .BoolOp .. => true
  | _ => false
def SX (X : Cx) (c : Cn) (W : WX) (e : Expr) (m : Env → Hm → Res RV) : Prop := SE X c W e m ∧ (isBO e = true → PW X e (tT c W m))
theorem After.bind0 {α β γ δ : Type} {ι : List Addr} {H : Hp} {W : Nat → Hp → Prop} {r : Res α} {f : α → Hm → Res γ} {Rel : List Addr → Hp → γ → δ → Prop} {Rel1 : List Addr → Hp → α → β → Prop} {Q : δ → Hp → Prop} {Q1 : β → Hp → Prop} (a : After c ι H (r.bind f) Rel Q W)
    (k : ∀ x h1 ι1 H1 v, Stp ι H ι1 H1 → RH c ι1 H1 h1 → Rel1 ι1 H1 x v → After c ι H (f x h1) Rel Q W → Q1 v H1) : After c ι H r Rel1 Q1 W := by
  cases r with
  | ok x h => exact fun ι1 H1 v s R z => k x h ι1 H1 v s R z a
  | exc e h => exact a
  | bad => exact a
/-! ### and, or, not, if -/
def andF (mb : Hm → Res RV) (x : RV) (h1 : Hm) : Res RV := match x with
  | .v (.bl true) => mb h1
  | .v (.bl false) => ok1 (.bl false) h1
  | _ => .bad
def orF (mb : Hm → Res RV) (x : RV) (h1 : Hm) : Res RV := match x with
  | .v (.bl false) => mb h1
  | .v (.bl true) => ok1 (.bl true) h1
  | _ => .bad
def notF (x : RV) (h1 : Hm) : Res RV := match x with
  | .v (.bl b) => ok1 (.bl (!b)) h1
  | _ => .bad
def iteF (ma mb : Hm → Res RV) (x : RV) (h1 : Hm) : Res RV := match x with
  | .v (.bl true) => ma h1
  | .v (.bl false) => mb h1
  | _ => .bad
theorem andF_bl {mb : Hm → Res RV} {x : RV} {h : Hm} (e : andF mb x h ≠ .bad) : ∃ b, x = .v (.bl b) := by
  unfold andF at e
  split at e
  · exact ⟨_, rfl⟩
  · exact ⟨_, rfl⟩
  · exact absurd rfl e
theorem orF_bl {mb : Hm → Res RV} {x : RV} {h : Hm} (e : orF mb x h ≠ .bad) : ∃ b, x = .v (.bl b) := by
  unfold orF at e
  split at e
  · exact ⟨_, rfl⟩
  · exact ⟨_, rfl⟩
  · exact absurd rfl e
theorem notF_bl {x : RV} {h : Hm} (e : notF x h ≠ .bad) : ∃ b, x = .v (.bl b) := by
  unfold notF at e
  split at e
  · exact ⟨_, rfl⟩
  · exact absurd rfl e
theorem iteF_bl {ma mb : Hm → Res RV} {x : RV} {h : Hm} (e : iteF ma mb x h ≠ .bad) : ∃ b, x = .v (.bl b) := by
  unfold iteF at e
  split at e
  · exact ⟨_, rfl⟩
  · exact ⟨_, rfl⟩
  · exact absurd rfl e
theorem nb_ok {r : Res RV} {x : RV} {h : Hm} (e : r = .ok x h) : r ≠ .bad := by rw [e]; intro z; cases z
theorem nb_exc {r : Res RV} {x : Nat} {h : Hm} (e : r = .exc x h) : r ≠ .bad := by rw [e]; intro z; cases z
theorem and_rd {ma mb : Env → Hm → Res RV} {σ : L2.St} {H : Hp} {Q : VK} (q : tE c W (fun env h => (ma env h).bind (andF (mb env))) σ H Q) : tAndV (tE c W ma) (tE c W mb) σ H Q := by
  obtain ⟨ι, env, h, re, rh, a⟩ := q
  refine ⟨ι, env, h, re, rh, a.bind fun r h1 ι1 H1 v s1 R1 w a1 => ?_⟩
  obtain ⟨b, rfl⟩ := andF_bl (After.notBad a1)
  cases w
  refine ⟨b, rfl, ?_⟩
  cases b with
  | true => rw [if_pos rfl]; exact ⟨ι1, env, h1, re.mono s1, R1, After.mono (r := mb env h1) a1 (fun ι' H' x y s z => z.base s1.dom) fun _ _ q => q⟩
  | false => rw [if_neg Bool.false_ne_true]; exact end1 a1 R1 (.bl _)
theorem or_rd {ma mb : Env → Hm → Res RV} {σ : L2.St} {H : Hp} {Q : VK} (q : tE c W (fun env h => (ma env h).bind (orF (mb env))) σ H Q) : tOrV (tE c W ma) (tE c W mb) σ H Q := by
  obtain ⟨ι, env, h, re, rh, a⟩ := q
  refine ⟨ι, env, h, re, rh, a.bind fun r h1 ι1 H1 v s1 R1 w a1 => ?_⟩
  obtain ⟨b, rfl⟩ := orF_bl (After.notBad a1)
  cases w
  refine ⟨b, rfl, ?_⟩
  cases b with
  | false => rw [if_neg Bool.false_ne_true]; exact ⟨ι1, env, h1, re.mono s1, R1, After.mono (r := mb env h1) a1 (fun ι' H' x y s z => z.base s1.dom) fun _ _ q => q⟩
  | true => rw [if_pos rfl]; exact end1 a1 R1 (.bl _)
theorem not_rd {ma : Env → Hm → Res RV} {σ : L2.St} {H : Hp} {Q : VK} (q : tE c W (fun env h => (ma env h).bind notF) σ H Q) : tNotV (tE c W ma) σ H Q := by
  obtain ⟨ι, env, h, re, rh, a⟩ := q
  refine ⟨ι, env, h, re, rh, a.bind fun r h1 ι1 H1 v s1 R1 w a1 => ?_⟩
  obtain ⟨b, rfl⟩ := notF_bl (After.notBad a1)
  cases w
  exact ⟨b, rfl, end1 a1 R1 (.bl _)⟩
theorem RB_mono {c : Cn} {ι : List Addr} {H : Hp} {r : Res RV} {Q : Bool → Hp → Prop} {W : Nat → Hp → Prop} (a : After c ι H r RB Q W) : After c ι H r RB Q W := a
theorem and_rdT {ma mb : Env → Hm → Res RV} {σ : L2.St} {H : Hp} {Q : Bool → Hp → Prop} (q : tT c W (fun env h => (ma env h).bind (andF (mb env))) σ H Q) : tAnd (tT c W ma) (tT c W mb) σ H Q := by
  obtain ⟨ι, env, h, re, rh, hb, a⟩ := q
  dsimp only at hb a
  refine tT_of re rh ?_
  unfold tstM
  cases e : ma env h with
  | bad => rw [e] at a; exact a
  | exc x h' => rw [e] at a; exact a
  | ok r h' =>
    rw [e, Res.bind_ok] at a
    rw [Res.bind_ok]
    obtain ⟨b, rfl⟩ := andF_bl (After.notBad a)
    intro ι1 H1 v s1 R1 w
    subst w
    rw [e] at hb
    cases b with
    | true => rw [if_pos rfl]; exact ⟨ι1, env, h', re.mono s1, R1, fun r2 h2 e2 => hb r2 h2 e2, After.from (r := mb env h') a s1⟩
    | false => rw [if_neg Bool.false_ne_true]; exact (show After c ι H (ok1 (.bl false) h') RB Q _ from a) ι1 H1 false s1 R1 rfl
theorem or_rdT {ma mb : Env → Hm → Res RV} {σ : L2.St} {H : Hp} {Q : Bool → Hp → Prop} (q : tT c W (fun env h => (ma env h).bind (orF (mb env))) σ H Q) : tOr (tT c W ma) (tT c W mb) σ H Q := by
  obtain ⟨ι, env, h, re, rh, hb, a⟩ := q
  dsimp only at hb a
  refine tT_of re rh ?_
  unfold tstM
  cases e : ma env h with
  | bad => rw [e] at a; exact a
  | exc x h' => rw [e] at a; exact a
  | ok r h' =>
    rw [e, Res.bind_ok] at a
    rw [Res.bind_ok]
    obtain ⟨b, rfl⟩ := orF_bl (After.notBad a)
    intro ι1 H1 v s1 R1 w
    subst w
    rw [e] at hb
    cases b with
    | false => rw [if_neg Bool.false_ne_true]; exact ⟨ι1, env, h', re.mono s1, R1, fun r2 h2 e2 => hb r2 h2 e2, After.from (r := mb env h') a s1⟩
    | true => rw [if_pos rfl]; exact (show After c ι H (ok1 (.bl true) h') RB Q _ from a) ι1 H1 true s1 R1 rfl
theorem not_rdT {ma : Env → Hm → Res RV} {σ : L2.St} {H : Hp} {Q : Bool → Hp → Prop} (q : tT c W (fun env h => (ma env h).bind notF) σ H Q) : tNot (tT c W ma) σ H Q := by
  obtain ⟨ι, env, h, re, rh, hb, a⟩ := q
  dsimp only at hb a
  refine tT_of re rh ?_
  unfold tstM
  cases e : ma env h with
  | bad => rw [e] at a; exact a
  | exc x h' => rw [e] at a; exact a
  | ok r h' =>
    rw [e, Res.bind_ok] at a
    rw [Res.bind_ok]
    obtain ⟨b, rfl⟩ := notF_bl (After.notBad a)
    intro ι1 H1 v s1 R1 w
    subst w
    exact (show After c ι H (ok1 (.bl (!b)) h') RB Q _ from a) ι1 H1 (!b) s1 R1 rfl
/-- the test ahead of two ways -/
theorem ite_rd0 {mc : Env → Hm → Res RV} {ma mb : Env → Hm → Res RV} {σ : L2.St} {H : Hp} {Q : VK} (q : tE c W (fun env h => (mc env h).bind (iteF (ma env) (mb env))) σ H Q) : tIf (tT c W mc) (tE c W ma) (tE c W mb) σ H Q := by
  obtain ⟨ι, env, h, re, rh, a⟩ := q
  dsimp only at a
  refine tT_of re rh ?_
  unfold tstM
  cases e : mc env h with
  | bad => rw [e] at a; exact a
  | exc x h' => rw [e] at a; exact a
  | ok r h' =>
    rw [e, Res.bind_ok] at a
    rw [Res.bind_ok]
    obtain ⟨b, rfl⟩ := iteF_bl (After.notBad a)
    intro ι1 H1 v s1 R1 w
    subst w
    cases b with
    | true => rw [if_pos rfl]; exact ⟨ι1, env, h', re.mono s1, R1, (After.from (r := ma env h') a s1).mono (fun ι' H' x y s z => z.base s1.dom) fun _ _ q => q⟩
    | false => rw [if_neg Bool.false_ne_true]; exact ⟨ι1, env, h', re.mono s1, R1, (After.from (r := mb env h') a s1).mono (fun ι' H' x y s z => z.base s1.dom) fun _ _ q => q⟩
theorem SE.not {a : Expr} {ma : Env → Hm → Res RV} {pos : Pos} (ha : SE X c W a ma) : SX X c W (.UnaryOp .Not a pos) fun env h => (ma env h).bind notF :=
  ⟨⟨pe_weaken (pe_not ha.1) fun σ H Q q => not_rd q, pt_weaken (pt_not ha.2) fun σ H Q q => not_rdT q⟩, fun h => by cases h⟩
theorem pw_weaken {e : Expr} {t t' : TT} (h : PW X e t) (w : ∀ σ H Q, t' σ H Q → t σ H Q) : PW X e t' := ⟨fun wh pins s σ H Q I q => h.run wh pins s σ H Q I (w σ H Q q)⟩
theorem SX.and2 {a b : Expr} {ma mb : Env → Hm → Res RV} {pos : Pos} (ha : SE X c W a ma) (hb : SE X c W b mb) : SX X c W (.BoolOp .And [a, b] pos) fun env h => (ma env h).bind (andF (mb env)) :=
  ⟨⟨pe_weaken (pe_and ha.1 (pe_one hb.1)) fun σ H Q q => and_rd q, pt_weaken (pw_and ha.2 (pw_and1 hb.2)).pt fun σ H Q q => and_rdT q⟩, fun _ => pw_weaken (pw_and ha.2 (pw_and1 hb.2)) fun σ H Q q => and_rdT q⟩
theorem SX.and3 {a b d : Expr} {r : List Expr} {ma mb : Env → Hm → Res RV} {pos : Pos} (ha : SE X c W a ma) (hb : SX X c W (.BoolOp .And (b :: d :: r) pos) mb) : SX X c W (.BoolOp .And (a :: b :: d :: r) pos) fun env h => (ma env h).bind (andF (mb env)) :=
  ⟨⟨pe_weaken (pe_and ha.1 hb.1.1) fun σ H Q q => and_rd q, pt_weaken (pw_and ha.2 (hb.2 rfl)).pt fun σ H Q q => and_rdT q⟩, fun _ => pw_weaken (pw_and ha.2 (hb.2 rfl)) fun σ H Q q => and_rdT q⟩
theorem SX.or2 {a b : Expr} {ma mb : Env → Hm → Res RV} {pos : Pos} (ha : SE X c W a ma) (hb : SE X c W b mb) : SX X c W (.BoolOp .Or [a, b] pos) fun env h => (ma env h).bind (orF (mb env)) :=
  ⟨⟨pe_weaken (pe_or ha.1 (pe_one hb.1)) fun σ H Q q => or_rd q, pt_weaken (pw_or ha.2 (pw_or1 hb.2)).pt fun σ H Q q => or_rdT q⟩, fun _ => pw_weaken (pw_or ha.2 (pw_or1 hb.2)) fun σ H Q q => or_rdT q⟩
theorem SX.or3 {a b d : Expr} {r : List Expr} {ma mb : Env → Hm → Res RV} {pos : Pos} (ha : SE X c W a ma) (hb : SX X c W (.BoolOp .Or (b :: d :: r) pos) mb) : SX X c W (.BoolOp .Or (a :: b :: d :: r) pos) fun env h => (ma env h).bind (orF (mb env)) :=
  ⟨⟨pe_weaken (pe_or ha.1 hb.1.1) fun σ H Q q => or_rd q, pt_weaken (pw_or ha.2 (hb.2 rfl)).pt fun σ H Q q => or_rdT q⟩, fun _ => pw_weaken (pw_or ha.2 (hb.2 rfl)) fun σ H Q q => or_rdT q⟩
/-! ### a or b, of whole numbers -/
def isCall : Expr → Bool
  | .Call _ _ _ _ => true
  | _ => false
def orIF (mb : Hm → Res RV) (x : RV) (h1 : Hm) : Res RV := match x with
  | .v (.int i) => if i = 0 then mb h1 else ok1 (.int i) h1
  | _ => .bad
theorem orIF_int {mb : Hm → Res RV} {x : RV} {h : Hm} (e : orIF mb x h ≠ .bad) : ∃ i, x = .v (.int i) := by
  unfold orIF at e
  split at e
  · exact ⟨_, rfl⟩
  · exact absurd rfl e
theorem orI_rd {K : PySem.W.Frag} {ma mb : Env → Hm → Res RV} {σ : L2.St} {H : Hp} {Q : VK} (q : tE c W (fun env h => (ma env h).bind (orIF (mb env))) σ H Q) : tOrT K (tE c W ma) (tE c W mb) σ H Q := by
  obtain ⟨ι, env, h, re, rh, a⟩ := q
  refine ⟨ι, env, h, re, rh, a.bind fun r h1 ι1 H1 v s1 R1 w a1 => ?_⟩
  obtain ⟨i, rfl⟩ := orIF_int (After.notBad a1)
  cases w
  refine ⟨i != 0, rfl, ?_⟩
  unfold orIF at a1
  dsimp only at a1
  by_cases e : i = 0
  · rw [if_pos e] at a1
    rw [if_neg (by simp [e])]
    exact ⟨ι1, env, h1, re.mono s1, R1, After.mono (r := mb env h1) a1 (fun ι' H' x y s z => z.base s1.dom) fun _ _ q => q⟩
  · rw [if_neg e] at a1
    rw [if_pos (by simp [e])]
    exact end1 a1 R1 (.int _)
theorem orI_rdT {K : PySem.W.Frag} {ma mb : Env → Hm → Res RV} {σ : L2.St} {H : Hp} {Q : Bool → Hp → Prop} (q : tT c W (fun env h => (ma env h).bind (orIF (mb env))) σ H Q) :
    tOr (fun σ H Q => tE c W ma σ H fun x H' => ∃ k, TruV K x H' k ∧ Q k H') (tT c W mb) σ H Q := by
  obtain ⟨ι, env, h, re, rh, hb, a⟩ := q
  dsimp only at hb a
  refine ⟨ι, env, h, re, rh, ?_⟩
  cases e : ma env h with
  | bad => rw [e] at a; exact a
  | exc x h' => rw [e] at a; exact a
  | ok r h' =>
    rw [e, Res.bind_ok] at a
    rw [e] at hb
    obtain ⟨i, rfl⟩ := orIF_int (After.notBad a)
    intro ι1 H1 v s1 R1 w
    cases w
    refine ⟨i != 0, rfl, ?_⟩
    by_cases e0 : i = 0
    · subst e0
      rw [if_neg (by simp)]
      exact ⟨ι1, env, h', re.mono s1, R1, fun r2 h2 e2 => hb r2 h2 (by rw [Res.bind_ok]; exact e2), After.from (r := mb env h') a s1⟩
    · exfalso
      have := hb (.v (.int i)) h' (by rw [Res.bind_ok]; unfold orIF; dsimp only; rw [if_neg e0]; rfl)
      obtain ⟨b, z⟩ := this
      cases z
theorem SX.orI {a b : Expr} {ma mb : Env → Hm → Res RV} {pos : Pos} (hc : isCall a = true) (K : X.K = c.K) (ha : SE X c W a ma) (hb : SE X c W b mb) : SX X c W (.BoolOp .Or [a, b] pos) fun env h => (ma env h).bind (orIF (mb env)) := by
  have he : ∀ whole, isTrue a X.env whole = (do let v ← whole; standAt a.pos; holding [v] (truthy v)) := by
    intro whole
    cases a with
    | Call _ _ _ _ => rfl
    | _ => cases hc
  exact ⟨⟨pe_weaken (pe_orT ha.1 (pe_one hb.1)) fun σ H Q q => orI_rd q, pt_weaken (pw_or (pt_truth ha.1 he) (pw_or1 hb.2)).pt fun σ H Q q => orI_rdT q⟩, fun _ => pw_weaken (pw_or (pt_truth ha.1 he) (pw_or1 hb.2)) fun σ H Q q => orI_rdT q⟩
theorem isTrue_if {t b o : Expr} {pos : Pos} {env : PySem.Env} {whole : Sem Value} : isTrue (.IfExp t b o pos) env whole = (do if ← isTrue t env (eval t env) then isTrue b env (eval b env) else isTrue o env (eval o env)) := rfl
theorem ite_rdT {mc : Env → Hm → Res RV} {ma mb : Env → Hm → Res RV} {σ : L2.St} {H : Hp} {Q : Bool → Hp → Prop} (q : tT c W (fun env h => (mc env h).bind (iteF (ma env) (mb env))) σ H Q) : tT c W mc σ H fun b H1 => if b = true then tT c W ma σ H1 Q else tT c W mb σ H1 Q := by
  obtain ⟨ι, env, h, re, rh, hb, a⟩ := q
  dsimp only at a hb
  refine tT_of re rh ?_
  unfold tstM
  cases e : mc env h with
  | bad => rw [e] at a; exact a
  | exc x h' => rw [e] at a; exact a
  | ok r h' =>
    rw [e, Res.bind_ok] at a
    rw [Res.bind_ok]
    obtain ⟨b, rfl⟩ := iteF_bl (After.notBad a)
    intro ι1 H1 v s1 R1 w
    subst w
    rw [e] at hb
    cases b with
    | true => rw [if_pos rfl]; exact ⟨ι1, env, h', re.mono s1, R1, fun r2 h2 e2 => hb r2 h2 e2, After.from (r := ma env h') a s1⟩
    | false => rw [if_neg Bool.false_ne_true]; exact ⟨ι1, env, h', re.mono s1, R1, fun r2 h2 e2 => hb r2 h2 e2, After.from (r := mb env h') a s1⟩
theorem SX.ite {t a b : Expr} {mc ma mb : Env → Hm → Res RV} {pos : Pos} (ht : SE X c W t mc) (ha : SE X c W a ma) (hb : SE X c W b mb) : SX X c W (.IfExp t a b pos) fun env h => (mc env h).bind (iteF (ma env) (mb env)) := by
  refine ⟨⟨pe_weaken (pe_ifExp ht.2 ha.1 hb.1) fun σ H Q q => ite_rd0 q, ⟨fun pins s σ H Q I q => ?_⟩⟩, fun h => by cases h⟩
  rw [isTrue_if]
  refine wpAny_bind (thn (ht.2.run pins s σ H _ I (ite_rdT q)) fun d s1 ⟨H1, I1, q1⟩ => ?_)
  cases d with
  | true => exact ha.2.run pins s1 σ H1 Q I1 q1
  | false => exact hb.2.run pins s1 σ H1 Q I1 q1
/-! ### names, constants -/
theorem SX.of {e : Expr} {m : Env → Hm → Res RV} (h : SE X c W e m) (n : isBO e = false := by rfl) : SX X c W e m := ⟨h, fun z => by rw [n] at z; cases z⟩
def varM (i : Nat) (env : Env) (h : Hm) : Res RV := match env[i]? with
  | some (some d) => ok1 d h
  | _ => .bad
theorem var_rd {i : Nat} {σ : L2.St} {H : Hp} {Q : VK} (q : tE c W (varM i) σ H Q) : tVar i σ H Q := by
  obtain ⟨ι, env, h, re, rh, a⟩ := q
  unfold varM at a
  split at a
  · rename_i d e
    obtain ⟨v, h1, h2⟩ := re.2 i d e
    exact ⟨v, h1, end1 a rh h2⟩
  · exact a.elim
theorem se_var (C : Cok X c N sc ac k T G cf W) {i : Nat} {x : Str} {pos : Pos} (h1 : N[i]? = some x) (h2 : visB sc x = true) (h3 : okName x = true) : SE X c W (.Name x pos) (varM i) :=
  se_val (pe_weaken (pe_var (by rw [C.n]; exact h1) (visB_ok C.s h2) (okName_ok h3).1 (okName_ok h3).2.1) fun σ H Q q => var_rd q) (by intro _; rfl)
theorem con_rd {d : D} {v : V} (hv : ∀ ι H, RD c ι H d v) {σ : L2.St} {H : Hp} {Q : VK} (q : tE c W (fun _ h => ok1 d h) σ H Q) : tC v σ H Q := by
  obtain ⟨ι, env, h, re, rh, a⟩ := q
  exact end1 a rh (hv ι H)
theorem se_con {e : Expr} {d : D} {v : V} (h : PE X e (tC v)) (hv : ∀ ι H, RD c ι H d v) (he : ∀ whole, isTrue e X.env whole = (do let v ← whole; standAt e.pos; holding [v] (truthy v))) : SE X c W e fun _ h => ok1 d h :=
  se_val (pe_weaken h fun σ H Q q => con_rd hv q) he
theorem se_glob (C : Cok X c N sc ac k T G cf W) {i : Nat} {x : Str} {pos : Pos} (h1 : T.glbs[i]? = some x) (h2 : glB sc x = true) (h3 : okName x = true) : SE X c W (.Name x pos) fun _ h => ok1 (G i) h := by
  obtain ⟨u, v, e1, e2, e3⟩ := C.glb i x h1
  exact se_con (pe_glob (glB_ok C h2) e1 e2 (okName_ok h3).1) e3 (by intro _; rfl)
theorem se_fnv (C : Cok X c N sc ac k T G cf W) {i : Nat} {x : Str} {pos : Pos} (h1 : T.names[i]? = some x) (h2 : glB sc x = true) (h3 : okName x = true) : SE X c W (.Name x pos) fun _ h => ok1 (.fn i) h := by
  obtain ⟨f, e1, e2⟩ := C.fnF i x h1
  exact se_con (v := .ref f) (pe_glob (glB_ok C h2) e1 rfl (okName_ok h3).1) (fun _ _ => .fn e2) (by intro _; rfl)
/-! ### argument lists -/
def plainA (e : Expr) : Bool := match e with
  | .Starred _ _ => false
  | _ => true
theorem starEach_plain {e : Expr} {es : List Expr} {env : PySem.Env} (h : plainA e = true) : starEach (e :: es) env = (false, eval e env) :: starEach es env := by
  cases e <;> first | rfl | cases h
theorem starEach_all {env : PySem.Env} {pos : Pos} : ∀ {es : List Expr}, es.all plainA = true → (backTo pos (starEach es env)).any (·.1) = false ∧ (backTo pos (starEach es env)).all (fun x => !x.1) = true
  | [], _ => ⟨rfl, rfl⟩
  | e :: es, h => by
    rw [List.all_cons, Bool.and_eq_true] at h
    obtain ⟨a, b⟩ := starEach_all (pos := pos) h.2
    rw [starEach_plain h.1]
    exact ⟨a, b⟩
theorem tEs_cons {ma : Env → Hm → Res RV} {ms : Env → Hm → Res (List RV)} {σ : L2.St} {H : Hp} {Q : List V → Hp → Prop} (q : tEs c W (fun env h => (ma env h).bind fun x h1 => (ms env h1).bind fun xs h2 => .ok (x :: xs) h2) σ H Q) : tCons (tE c W ma) (tEs c W ms) σ H Q := by
  obtain ⟨ι, env, h, re, rh, a⟩ := q
  refine ⟨ι, env, h, re, rh, a.bind fun r h1 ι1 H1 v s1 R1 w a1 => ⟨ι1, env, h1, re.mono s1, R1, a1.bind fun rs h2 ι2 H2 vs s2 R2 ws a2 => ?_⟩⟩
  refine a2 ι2 H2 (v :: vs) Stp.refl R2 (.cons (w.mono s2) (ws.base s1.dom) fun b xs e1 e2 => ?_)
  subst e1 e2
  obtain ⟨b', vs', e3, g1, _⟩ := w
  cases e3
  exact ws.noTmp (by rw [g1]; intro z; cases z)
theorem tEs_nil {σ : L2.St} {H : Hp} {Q : List V → Hp → Prop} (q : tEs c W (fun _ h => .ok [] h) σ H Q) : tNil σ H Q := by
  obtain ⟨ι, env, h, re, rh, a⟩ := q
  exact a ι H [] Stp.refl rh .nil
theorem pa_mcons {e : Expr} {es : List Expr} {ma : Env → Hm → Res RV} {ms : Env → Hm → Res (List RV)} (he : PE X e (tE c W ma)) (hs : PA X es (tEs c W ms)) (hp : plainA e = true) :
    PA X (e :: es) (tEs c W fun env h => (ma env h).bind fun x h1 => (ms env h1).bind fun xs h2 => .ok (x :: xs) h2) :=
  pa_weaken (pa_cons he hs (starEach_plain hp)) fun σ H Q q => tEs_cons q
theorem pa_mnil : PA X [] (tEs c W fun _ h => .ok [] h) := pa_weaken pa_nil fun σ H Q q => tEs_nil q
/-! ### calls -/
/-- arguments, then what is done with them -/
theorem call_rd {ms : Env → Hm → Res (List RV)} {g : List D → Hm → Res D} {σ : L2.St} {H : Hp} {Q : VK} (q : tE c W (fun env h => (ms env h).bind fun rs h1 => (g (boxAll rs h1).1 (boxAll rs h1).2).bind fun d h2 => ok1 d h2) σ H Q) :
    tEs c W ms σ H fun vs H1 => spM c g vs H1 Q (WE W σ) := by
  obtain ⟨ι, env, h, re, rh, a⟩ := q
  refine ⟨ι, env, h, re, rh, a.bind0 fun rs h1 ι1 H1 vs s1 R1 w a1 => ?_⟩
  obtain ⟨ι2, e2, s2, R2, d2⟩ := RRs.box (h := h1) s1 R1 w
  refine ⟨ι2, _, _, d2, R2, ?_⟩
  cases e : g (boxAll rs h1).1 (boxAll rs h1).2 with
  | bad => rw [e] at a1; exact a1
  | exc x h' =>
    rw [e] at a1
    exact fun ι' H' s R => a1 ι' H' (s2.trans s) R
  | ok d h' =>
    rw [e] at a1
    exact fun ι' H' v s R r => a1 ι' H' v (s2.trans s) R r
theorem pe_fn (C : Cok X c N sc ac k T G cf W) {i : Nat} {x : Str} {p pos : Pos} {e : Expr} {es : List Expr} {ms : Env → Hm → Res (List RV)} (h1 : T.names[i]? = some x) (h2 : glB sc x = true) (h3 : okName x = true) (hp : (e :: es).all plainA = true) (ha : PA X (e :: es) (tEs c W ms)) :
    SE X c W (.Call (.Name x p) (e :: es) [] pos) fun env h => (ms env h).bind fun rs h1 => (cf i (boxAll rs h1).1 (boxAll rs h1).2).bind fun d h2 => ok1 d h2 := by
  obtain ⟨f, fd, ps, e1, e2, e3, e4⟩ := C.fns i x h1
  rw [List.all_cons, Bool.and_eq_true] at hp
  refine se_val (pe_weaken (pe_callSD (dvs := []) (ds := []) e4 C.room (glB_ok C h2) e1 e2 e3 .nil (E := WE W) (fun σ => passAt C.tk σ) ha (okName_ok h3).1 (starEach_plain hp.1) (starEach_all hp.2).1) fun σ H Q q => ?_) (by intro _; rfl)
  have := call_rd (g := cf i) q
  show tEs c W ms σ H fun vs H1 => spM c (cf i) (vs ++ []) H1 Q (WE W σ)
  simp only [List.append_nil]
  exact this
theorem pe_fn0 (C : Cok X c N sc ac k T G cf W) {i : Nat} {x : Str} {p pos : Pos} (h1 : T.names[i]? = some x) (h2 : glB sc x = true) (h3 : okName x = true) :
    SE X c W (.Call (.Name x p) [] [] pos) fun env h => (Res.ok [] h).bind fun rs h1 => (cf i (boxAll rs h1).1 (boxAll rs h1).2).bind fun d h2 => ok1 d h2 := by
  obtain ⟨f, fd, ps, e1, e2, e3, e4⟩ := C.fns i x h1
  refine se_val ⟨fun pins s σ H Q I q => ?_⟩ (by intro _; rfl)
  obtain ⟨ι, env, h, re, rh, a⟩ := call_rd (g := cf i) (ms := fun _ h => .ok [] h) q
  refine wpAny_Call_Name_kw (ld_glob I (glB_ok C h2) e1 ?_ (okName_ok h3).1)
  refine PySem.W.callWith_K0 I.kIn e2 ?_
  exact run_fnSD (dvs := []) (ds := []) (E := WE W) (us := []) e4 C.room e3 .nil (passAt C.tk σ) I .nil (a ι H [] Stp.refl rh .nil)
theorem se_callV (C : Cok X c N sc ac k T G cf W) {s : Nat} {x : Str} {p pos : Pos} {e : Expr} {es : List Expr} {ms : Env → Hm → Res (List RV)} (h1 : N[s]? = some x) (h2 : visB sc x = true) (h3 : okName x = true) (hp : (e :: es).all plainA = true) (ha : PA X (e :: es) (tEs c W ms)) :
    SE X c W (.Call (.Name x p) (e :: es) [] pos) fun env h => match env[s]? with
      | some (some (.fn i)) => (ms env h).bind fun rs h1 => (cf i (boxAll rs h1).1 (boxAll rs h1).2).bind fun d h2 => ok1 d h2
      | _ => .bad := by
  rw [List.all_cons, Bool.and_eq_true] at hp
  refine se_val ⟨fun pins st σ H Q I q => ?_⟩ (by intro _; rfl)
  obtain ⟨ι, env, h, re, rh, a⟩ := q
  dsimp only at a
  split at a
  · rename_i i e0
    obtain ⟨v, hs, g⟩ := re.2 s _ e0
    cases g with
    | @fn _ b g =>
      obtain ⟨x', ex⟩ := C.fnN i _ g
      obtain ⟨f, fd, ps, e1, e2, e3, e4⟩ := C.fns i x' ex
      obtain ⟨f', e1', g'⟩ := C.fnF i x' ex
      rw [e1] at e1'
      cases e1'
      rw [g] at g'
      injection g' with g'
      subst g'
      have q' := call_rd (g := cf i) (ms := ms) (σ := σ) (H := H) (Q := Q) ⟨ι, env, h, re, rh, a⟩
      refine wpAny_Call_Name_kw (thn ((pe_var (pos := p) (by rw [C.n]; exact h1) (visB_ok C.s h2) (okName_ok h3).1 (okName_ok h3).2.1).run pins st σ H (fun v H1 => v = .ref b ∧ H1 = H) I ⟨.ref b, hs, rfl, rfl⟩) fun u s1 ⟨v, H1, I1, r1, q1⟩ => ?_)
      obtain ⟨rfl, rfl⟩ := q1
      cases r1
      refine PySem.W.callWith_K (h₀ := X.base) I.ok.mod.kin e2 (thn (ha.run pos pins s1 σ _ _ I1 q') fun us s2 ⟨vs, H2, I2, r, q⟩ => ⟨I2.kIn, ?_⟩) (starEach_plain hp.1) (starEach_all hp.2).1
      exact run_fnSD (dvs := []) (ds := []) (E := WE W) e4 C.room e3 .nil (passAt C.tk σ) I2 r (by rw [List.append_nil]; exact q)
  · exact a.elim
/-! ### built-ins -/
def Blt.name : Blt → Str
  | .len => "len" | .list => "list" | .tuple => "tuple" | .dict => "dict" | .int => "int" | .str => "str" | .abs => "abs" | .max => "max" | .min => "min"
  | .sum => "sum" | .sorted => "sorted" | .all => "all" | .any => "any" | .set => "set" | .repr => "repr"
theorem Blt.boot (b : Blt) : bootBuiltins b.name = some b.val := by cases b <;> decide +kernel
theorem Blt.okn (b : Blt) : okName b.name = true := by cases b <;> decide +kernel
theorem bltF_nx (b : Blt) : ∀ rs h x h', bltF b rs h ≠ .exc x h' := by
  intro rs h x h' e
  unfold bltF sortedF at e
  repeat' split at e
  all_goals cases e
theorem blt_rd {ms : Env → Hm → Res (List RV)} {g : List RV → Hm → Res RV} (nx : ∀ rs h x h', g rs h ≠ .exc x h') {σ : L2.St} {H : Hp} {Q : VK} (q : tE c W (fun env h => (ms env h).bind fun rs h1 => g rs h1) σ H Q) : tCB (rC c g) (tEs c W ms) σ H Q := by
  obtain ⟨ι, env, h, re, rh, a⟩ := q
  refine ⟨ι, env, h, re, rh, a.bind fun rs h1 ι1 H1 vs s1 R1 w a1 => ?_⟩
  refine ⟨ι1, h1, rs, H, R1, w, ?_⟩
  cases e : g rs h1 with
  | bad => rw [e] at a1; exact a1
  | exc x h' => exact absurd e (nx _ _ _ _)
  | ok d h' =>
    rw [e] at a1
    exact fun ι' H' v s R r => a1 ι' H' v s R (r.base s1.dom)
theorem se_blt (C : Cok X c N sc ac k T G cf W) {b : Blt} {p pos : Pos} {e : Expr} {es : List Expr} {ms : Env → Hm → Res (List RV)} (h1 : b.name ∈ T.free) (h2 : glB sc b.name = true) (hp : (e :: es).all plainA = true) (ha : PA X (e :: es) (tEs c W ms)) :
    SE X c W (.Call (.Name b.name p) (e :: es) [] pos) fun env h => (ms env h).bind fun rs h1 => bltF b rs h1 := by
  rw [List.all_cons, Bool.and_eq_true] at hp
  have ok := okName_ok b.okn
  have K := blt_ok C.K C.calm b
  have B := b.boot
  refine se_val ?_ (by intro _; rfl)
  have go1 : ∀ {id : String}, b.val = .builtin id → PE X (.Call (.Name b.name p) (e :: es) [] pos) (tCB (rC c (bltF b)) (tEs c W ms)) := fun z =>
    pe_callB (z ▸ K) (glB_ok C h2) (C.free _ h1) (z ▸ B) ha ok.2.2 ok.1 (starEach_plain hp.1) (starEach_all hp.2).1
  have go2 : ∀ {id : String}, b.val = .type id → PE X (.Call (.Name b.name p) (e :: es) [] pos) (tCB (rC c (bltF b)) (tEs c W ms)) := fun z =>
    pe_callTy (z ▸ K) (glB_ok C h2) (C.free _ h1) (z ▸ B) ha ok.2.2 ok.1 (starEach_plain hp.1) (starEach_all hp.2).1
  refine pe_weaken (t := tCB (rC c (bltF b)) (tEs c W ms)) ?_ fun σ H Q q => blt_rd (bltF_nx b) q
  cases b <;> first | exact go1 rfl | exact go2 rfl
end
end MP

/-! MP4e: isinstance, methods, slices, displays, comprehensions, what loops walk. -/
namespace MP
open PySem PySem.Spec PyProof.Rows L2
section
variable {X : Cx} {c : Cn} {N : List Str} {sc : Scope} {ac : Str → Bool} {k : Nat} {T : Tb} {G : Nat → D} {cf : Nat → List D → Hm → Res D} {W : WX}
/-! ### isinstance -/
def Ty.nm : Ty → String
  | .int => "int" | .bool => "bool" | .str => "str" | .tuple => "tuple" | .list => "list" | .dict => "dict"
def Ty.name : Ty → Str
  | .int => "int" | .bool => "bool" | .str => "str" | .tuple => "tuple" | .list => "list" | .dict => "dict"
theorem Ty.boot (t : Ty) : bootBuiltins t.name = some (.type t.nm) := by cases t <;> decide +kernel
theorem Ty.okn (t : Ty) : okName t.name = true := by cases t <;> decide +kernel
theorem kit_tt (K : PySem.W.Frag) (t u : Ty) : PySem.W.kitOne K (.type t.nm) (.type u.nm) = some (isTy t u) := kit_ty (by cases t <;> cases u <;> decide +kernel)
theorem kit_nt (K : PySem.W.Frag) (u : Ty) : PySem.W.kitOne K (.type "NoneType") (.type u.nm) = some false := kit_ty (by cases u <;> decide +kernel)
theorem sqL_ty {K : PySem.W.Frag} {H : Hp} {a : Addr} {vs : List V} (h : SqL K H a vs) : TyX K H (.ref a) (.type "list") := by
  rcases h with (h | ⟨o, h⟩) | ⟨o, its, n, h1, h2, _⟩
  · exact .base (.lst h)
  · exact .base (.frz h)
  · exact .kList h1 h2
theorem sqT_ty {K : PySem.W.Frag} {H : Hp} {a : Addr} {vs : List V} (h : SqT K H a vs) : TyX K H (.ref a) (.type "tuple") := by
  rcases h with (h | ⟨o, h⟩) | ⟨o, its, n, h1, h2, _⟩
  · exact .base (.tup h)
  · exact .fTuple h
  · exact .kTuple h1 h2
theorem fdc_ty {K : PySem.W.Frag} {H : Hp} {a : Addr} {o : Obj} {ks : List (Key × V)} (h : H a = some (.frz o (.dK ks))) : TyX K H (.ref a) (.type "dict") := .fDict h
theorem ty_of {ι : List Addr} {H : Hp} {h : Hm} {d : D} {v : V} {t : Ty} (R : RH c ι H h) (w : RD c ι H d v) (e : tyOf h d = some t) : TyX c.K H v (.type t.nm) := by
  cases w with
  | non => cases e
  | bl b => cases e; exact .base (.bl b)
  | int i => cases e; exact .base (.int i)
  | str x => cases e; exact .base (.str _)
  | tup h1 _ => cases e; exact sqT_ty h1
  | fz h1 _ => cases e; exact sqL_ty h1.l
  | fn _ => cases e
  | @ref n a h1 =>
    have e : (match h[n]? with | some (.lst _) => some Ty.list | some (.dic _) => some Ty.dict | some (.fdc _) => some Ty.dict | _ => none) = some t := e
    split at e
    · rename_i xs q
      cases e
      obtain ⟨vs, g1, _⟩ := R.obj n _ a q h1
      exact .base (.lst g1)
    · rename_i kvs q
      cases e
      obtain ⟨ks, g1, _⟩ := R.obj n _ a q h1
      exact .base (.dK g1)
    · rename_i kvs q
      cases e
      obtain ⟨x, ks, g1, _⟩ := R.obj n _ a q h1
      exact fdc_ty g1
    · cases e
def isinF (ts : List Ty) (x : RV) (h1 : Hm) : Res RV := match x with
  | .v d => match tyOf h1 d with
    | some t => ok1 (.bl (ts.any (isTy t))) h1
    | none => match d with
      | .non => ok1 (.bl false) h1
      | _ => .bad
  | .l _ => ok1 (.bl (ts.any (isTy .list))) h1
theorem isin_rd {u : Ty} {x : RV} {v : V} {ι : List Addr} {H H0 : Hp} {h : Hm} {Q : VK} {W' : Nat → Hp → Prop} (R : RH c ι H h) (w : RW c ι H x v) (a : After c ι H (isinF [u] x h) (RR c H0) Q W') : rIsi c.K [v, .ty u.nm] H Q := by
  have fin : ∀ {b : Bool}, After c ι H (ok1 (.bl b) h) (RR c H0) Q W' → Q (.bl b) H := fun a => end1 a R (.bl _)
  unfold isinF at a
  split at a
  · rename_i d
    split at a
    · rename_i t e
      have z := fin a
      rw [List.any_cons, List.any_nil, Bool.or_false] at z
      exact ⟨v, _, _, _, _, rfl, .ty _, ty_of R w e, kit_tt c.K t u, z⟩
    · split at a
      · cases w
        exact ⟨_, _, _, _, _, rfl, .ty _, .base .non, kit_nt c.K u, fin a⟩
      · exact a.elim
  · obtain ⟨p, vs, rfl, g1, _⟩ := w
    have z := fin a
    rw [List.any_cons, List.any_nil, Bool.or_false] at z
    exact ⟨_, _, _, _, _, rfl, .ty _, .base (.lst g1), kit_tt c.K .list u, z⟩
theorem se_isin (C : Cok X c N sc ac k T G cf W) {u : Ty} {a : Expr} {ma : Env → Hm → Res RV} {p p2 pos : Pos} (h1 : ("isinstance" : Str) ∈ T.free) (h2 : glB sc "isinstance" = true) (h3 : u.name ∈ T.free) (h4 : glB sc u.name = true) (hp : plainA a = true) (ha : PE X a (tE c W ma)) :
    SE X c W (.Call (.Name "isinstance" p) [a, .Name u.name p2] [] pos) fun env h => (ma env h).bind (isinF [u]) := by
  have ok := okName_ok u.okn
  have arg : PA X [.Name u.name p2] (tCons (tC (.ty u.nm)) tNil) := pa_cons (pe_bltn (glB_ok C h4) (C.free _ h3) u.boot rfl ok.2.2 ok.1) pa_nil
  refine se_val (pe_weaken (pe_callB call_isi (glB_ok C h2) (C.free _ h1) (by decide +kernel) (pa_cons ha arg (starEach_plain hp)) (he := starEach_plain hp)) fun σ H Q q => ?_) (by intro _; rfl)
  obtain ⟨ι, env, h, re, rh, a⟩ := un_rd q
  refine ⟨ι, env, h, re, rh, a.mono (fun _ _ _ _ _ z => z) fun x H1 ⟨ι1, h1, r, R1, w, a1⟩ => ?_⟩
  have z := isin_rd R1 w a1
  rw [← C.K] at z
  exact z
/-! ### methods -/
def Mth.name : Mth → Str
  | .append => "append" | .extend => "extend" | .pop => "pop" | .insert => "insert" | .remove => "remove" | .count => "count"
  | .get => "get" | .items => "items" | .values => "values" | .index => "index"
  | .join => "join" | .split => "split" | .lower => "lower" | .upper => "upper" | .partition => "partition"
theorem mth_pa (m : Mth) : PlainAttrs m.ty := by
  cases m <;> first | exact PySem.F.plainAttrs_list | exact PySem.F.plainAttrs_dict | exact PySem.F.plainAttrs_str
theorem mth_slot (m : Mth) : PySem.Slot m.ty m.name m.id := by
  cases m
  · exact PySem.F.slot_list_append
  · exact PySem.F.slot_list_extend
  · exact PySem.F.slot_list_pop
  · exact PySem.F.slot_dict_get
  · exact PySem.F.slot_dict_items
  · exact PySem.F.slot_dict_values
  · exact PySem.F.slot_list_index
  · exact PySem.F.slot_str_join
  · exact PySem.F.slot_str_split
  · exact PySem.F.slot_str_lower
  · exact PySem.F.slot_str_upper
  · exact PySem.F.slot_list_count
  · exact PySem.F.slot_list_insert
  · exact PySem.F.slot_list_remove
  · exact PySem.F.slot_str_partition
theorem mth_typ (m : Mth) : typeOf (.builtin m.id) = pure (.type "method_descriptor") := by
  cases m
  · exact PySem.F.type_list_append
  · exact PySem.F.type_list_extend
  · exact PySem.F.type_list_pop
  · exact PySem.F.type_dict_get
  · exact PySem.F.type_dict_items
  · exact PySem.F.type_dict_values
  · exact PySem.F.type_list_index
  · exact PySem.F.type_str_join
  · exact PySem.F.type_str_split
  · exact PySem.F.type_str_lower
  · exact PySem.F.type_str_upper
  · exact PySem.F.type_list_count
  · exact PySem.F.type_list_insert
  · exact PySem.F.type_list_remove
  · exact PySem.F.type_str_partition
theorem mthF_nx (m : Mth) : ∀ r rs h x h', mthF m r rs h ≠ .exc x h' := by
  intro r rs h x h' e
  unfold mthF at e
  repeat' split at e
  all_goals cases e
theorem mthF_tmp (m : Mth) (hk : m.keeps = true) {xs : List D} {rs : List RV} {h : Hm} : mthF m (.l xs) rs h = .bad := by
  unfold mthF
  split <;> first | rfl | (rename_i q; cases q; done) | cases hk
theorem rrs_v {ι : List Addr} {H H0 : Hp} : ∀ {ds : List D} {vs : List V}, RDs c ι H ds vs → RRs c H0 ι H (ds.map .v) vs
  | _, _, .nil => .nil
  | _, _, .cons h r => .cons h (rrs_v r) fun a xs e => by cases e
def methF (m : Mth) (ms : Hm → Res (List RV)) (x : RV) (h1 : Hm) : Res RV := if mthTy m x h1 then (ms h1).bind fun rs h2 => if m.keeps then mthF m x ((boxAll rs h2).1.map .v) (boxAll rs h2).2 else mthF m x rs h2 else .bad
theorem res_nx {α β : Type} {ι : List Addr} {H : Hp} {r : Res α} {Rel : List Addr → Hp → α → β → Prop} {Q : β → Hp → Prop} {W1 W2 : Nat → Hp → Prop} (nx : ∀ x h', r ≠ .exc x h') (a : After c ι H r Rel Q W1) : After c ι H r Rel Q W2 := by
  cases r with
  | ok x h => exact a
  | exc x h => exact absurd rfl (nx x h)
  | bad => exact a
theorem meth_rd (hK : X.K = c.K) {m : Mth} {mo : Env → Hm → Res RV} {ms : Env → Hm → Res (List RV)} {σ : L2.St} {H : Hp} {Q : VK} (q : tE c W (fun env h => (mo env h).bind (methF m (ms env))) σ H Q) :
    tBM X.K m.ty (rM c (mthF m)) (tE c W mo) (tEs c W ms) σ H Q := by
  obtain ⟨ι, env, h, re, rh, a⟩ := q
  refine ⟨ι, env, h, re, rh, a.bind fun r h1 ι1 H1 v s1 R1 w a1 => ?_⟩
  unfold methF at a1
  split at a1
  · rename_i ht
    refine ⟨hK ▸ mth_ty m R1 w.w ht, ι1, env, h1, re.mono s1, R1, a1.bind0 fun rs h2 ι2 H2 vs s2 R2 ws a2 => ?_⟩
    split at a2
    · rename_i hk
      obtain ⟨ι3, e3, s3, R3, d3⟩ := RRs.box (h := h2) s2 R2 ws
      have nl : ∀ xs, r ≠ .l xs := fun xs z => by
        subst z
        rw [mthF_tmp m hk] at a2
        exact a2
      cases r with
      | l xs => exact absurd rfl (nl xs)
      | v d =>
        have g : RD c ι2 H2 d v := (w.mono s2).w
        refine ⟨ι3, _, .v d, _, H, R3, (show RW c ι3 H2 (.v d) v from RD.ext e3 g), rrs_v d3, ?_⟩
        refine res_nx (W1 := fun _ _ => False) (mthF_nx m _ _ _) ?_
        cases e : mthF m (.v d) ((boxAll rs h2).1.map .v) (boxAll rs h2).2 with
        | bad => rw [e] at a2; exact a2
        | exc x h' => exact absurd e (mthF_nx m _ _ _ _ _)
        | ok y h' =>
          rw [e] at a2
          exact fun ι' H' v3 s4 R4 w4 => a2 ι' H' v3 (s3.trans s4) R4 (w4.base fun b n => s1.dom b (s2.dom b n))
    · refine ⟨ι2, h2, r, rs, H1, R2, (w.mono s2).w, ws, ?_⟩
      refine res_nx (W1 := fun _ _ => False) (mthF_nx m _ _ _) ?_
      cases e : mthF m r rs h2 with
      | bad => rw [e] at a2; exact a2
      | exc x h' => exact absurd e (mthF_nx m _ _ _ _ _)
      | ok y h' =>
        rw [e] at a2
        exact fun ι' H' v3 s4 R4 w4 => a2 ι' H' v3 (s2.trans s4) R4 (w4.base fun b n => s1.dom b (s2.dom b n))
  · exact a1.elim
/-- .. without arguments -/
theorem meth_rd0 (hK : X.K = c.K) {m : Mth} {mo : Env → Hm → Res RV} {σ : L2.St} {H : Hp} {Q : VK} (q : tE c W (fun env h => (mo env h).bind (methF m fun h => .ok [] h)) σ H Q) :
    tBM0 X.K m.ty (rM c (mthF m)) (tE c W mo) σ H Q := by
  obtain ⟨ι, env, h, re, rh, a⟩ := q
  refine ⟨ι, env, h, re, rh, a.bind fun r h1 ι1 H1 v s1 R1 w a1 => ?_⟩
  unfold methF at a1
  split at a1
  · rename_i ht
    refine ⟨hK ▸ mth_ty m R1 w.w ht, ι1, h1, r, [], H, R1, w.w, .nil, ?_⟩
    have a2 : After c ι1 H1 (mthF m r [] h1) (RR c H) Q fun e H' => W (c.X e) none σ H' := by
      rw [Res.bind_ok] at a1
      split at a1
      · exact a1
      · exact a1
    refine res_nx (W1 := fun _ _ => False) (mthF_nx m _ _ _) ?_
    cases e : mthF m r [] h1 with
    | bad => rw [e] at a2; exact a2
    | exc x h' => exact absurd e (mthF_nx m _ _ _ _ _)
    | ok y h' =>
      rw [e] at a2
      exact fun ι' H' v3 s4 R4 w4 => a2 ι' H' v3 s4 R4 (w4.base s1.dom)
  · exact a1.elim
def plainBase (o : Expr) : Bool := match o with
  | .Call (.Name _ _) [] [] _ => false
  | _ => true
theorem base_ok {o : Expr} (h : plainBase o = true) (name : Str) (env : PySem.Env) : attributeBase o name env (eval o env) = eval o env := by
  unfold attributeBase
  split
  · cases h
  · rfl
theorem few_ok {es : List Expr} {pos : Pos} {env : PySem.Env} (h : es.all plainA = true) (hl : es.length < 20) : ((backTo pos (starEach es env)).all (fun x => !x.1) && (backToKw pos (keywordEach [] env)).all (fun x => x.1.isSome) && decide (es.length + ([] : List Keyword).length + (if ([] : List Keyword).isEmpty then 0 else 1) < 30)) = true := by
  rw [(starEach_all h).2]
  have : decide (es.length + ([] : List Keyword).length + (if ([] : List Keyword).isEmpty then 0 else 1) < 30) = true := decide_eq_true (by simp; omega)
  rw [this]
  rfl
theorem se_meth (C : Cok X c N sc ac k T G cf W) {m : Mth} {o e : Expr} {es : List Expr} {apos pos : Pos} {mo : Env → Hm → Res RV} {ms : Env → Hm → Res (List RV)} (ho : PE X o (tE c W mo)) (hb : plainBase o = true) (hp : (e :: es).all plainA = true) (hl : (e :: es).length < 20) (hi : (apos.endLine == pos.line) = true) (ha : PA X (e :: es) (tEs c W ms)) :
    SE X c W (.Call (.Attribute o m.name apos) (e :: es) [] pos) fun env h => (mo env h).bind (methF m (ms env)) := by
  have hp' := hp
  rw [List.all_cons, Bool.and_eq_true] at hp'
  exact se_val (pe_weaken (pe_bm (mth_pa m) (mth_slot m) (mth_typ m) (mth_ok C.K C.hu m) ho ha (base_ok hb _ _) (few_ok hp hl) hi (starEach_plain hp'.1) (starEach_all hp'.2).1) fun σ H Q q => meth_rd C.K q) (by intro _; rfl)
theorem se_meth0 (C : Cok X c N sc ac k T G cf W) {m : Mth} {o : Expr} {apos pos : Pos} {mo : Env → Hm → Res RV} (ho : PE X o (tE c W mo)) (hb : plainBase o = true) (hi : (apos.endLine == pos.line) = true) :
    SE X c W (.Call (.Attribute o m.name apos) [] [] pos) fun env h => (mo env h).bind (methF m fun h => .ok [] h) :=
  se_val (pe_weaken (pe_bm0 (mth_pa m) (mth_slot m) (mth_typ m) (mth_ok C.K C.hu m) ho (base_ok hb _ _) hi) fun σ H Q q => meth_rd0 C.K q) (by intro _; rfl)
/-! ### slices -/
def tOi (c : Cn) (W : WX) (m : Env → Hm → Res (Option Int)) : TO := fun σ H Q => ∃ ι env h, RE c ι H env σ ∧ RH c ι H h ∧ After c ι H (m env h) (fun _ _ o p => o = p) Q fun e H' => W (c.X e) none σ H'
def partF (x : RV) (h1 : Hm) : Res (Option Int) := match x with
  | .v (.int i) => .ok (some i) h1
  | _ => .bad
theorem po_weaken {e : Option Expr} {t t' : TO} (h : PO X e t) (w : ∀ σ H Q, t' σ H Q → t σ H Q) : PO X e t' := ⟨fun pins s σ H Q I q => h.run pins s σ H Q I (w σ H Q q)⟩
theorem po_non : PO X none (tOi c W fun _ h => .ok none h) := po_weaken po_none fun σ H Q q => by
  obtain ⟨ι, env, h, re, rh, a⟩ := q
  exact a ι H none Stp.refl rh rfl
theorem po_som {e : Expr} {m : Env → Hm → Res RV} (he : PE X e (tE c W m)) : PO X (some e) (tOi c W fun env h => (m env h).bind partF) := po_weaken (po_some he) fun σ H Q q => by
  obtain ⟨ι, env, h, re, rh, a⟩ := q
  refine ⟨ι, env, h, re, rh, a.bind fun r h1 ι1 H1 v s1 R1 w a1 => ?_⟩
  unfold partF at a1
  split at a1
  · cases rw_int w.w
    exact ⟨_, rfl, a1 ι1 H1 _ Stp.refl R1 rfl⟩
  · exact a1.elim
theorem slF_nx : ∀ r lo hi h x h', slF r lo hi h ≠ .exc x h' := by
  intro r lo hi h x h' e
  unfold slF at e
  repeat' split at e
  all_goals cases e
theorem sl_rd {ma : Env → Hm → Res RV} {ml mh : Env → Hm → Res (Option Int)} {σ : L2.St} {H : Hp} {Q : VK} (q : tE c W (fun env h => (ma env h).bind fun x h1 => (ml env h1).bind fun l h2 => (mh env h2).bind fun u h3 => slF x l u h3) σ H Q) :
    tSl (rSl c) (tE c W ma) (tOi c W ml) (tOi c W mh) σ H Q := by
  obtain ⟨ι, env, h, re, rh, a⟩ := q
  refine ⟨ι, env, h, re, rh, a.bind fun r h1 ι1 H1 v s1 R1 w a1 => ⟨ι1, env, h1, re.mono s1, R1, a1.bind fun l h2 ι2 H2 l' s2 R2 el a2 => ⟨ι2, env, h2, (re.mono s1).mono s2, R2, a2.bind fun u h3 ι3 H3 u' s3 R3 eu a3 => ?_⟩⟩⟩
  subst el eu
  refine ⟨ι3, h3, r, R3, ((w.mono s2).mono s3).w, ?_⟩
  refine res_nx (W1 := fun _ _ => False) (slF_nx _ _ _ _) ?_
  cases e : slF r l u h3 with
  | bad => rw [e] at a3; exact a3
  | exc x h' => exact absurd e (slF_nx _ _ _ _ _ _)
  | ok y h' =>
    rw [e] at a3
    exact fun ι' H' v3 s4 R4 w4 => a3 ι' H' v3 s4 R4 (w4.base fun b n => s1.dom b (s2.dom b (s3.dom b n)))
theorem se_sl (C : Cok X c N sc ac k T G cf W) {a : Expr} {lo hi : Option Expr} {p2 pos : Pos} {ma : Env → Hm → Res RV} {ml mh : Env → Hm → Res (Option Int)} (ha : PE X a (tE c W ma)) (hl : PO X lo (tOi c W ml)) (hh : PO X hi (tOi c W mh)) :
    SE X c W (.Subscript a (.Slice lo hi none p2) pos) fun env h => (ma env h).bind fun x h1 => (ml env h1).bind fun l h2 => (mh env h2).bind fun u h3 => slF x l u h3 :=
  se_val (pe_weaken (pe_slice (sl_ok C.K) ha hl hh) fun σ H Q q => sl_rd q) (by intro _; rfl)
/-! ### displays -/
theorem tup_rd {n : Nat} (hn : n ≤ sizeLine) {ms : Env → Hm → Res (List RV)} (hm : ∀ env h rs h', ms env h = .ok rs h' → rs.length = n) {σ : L2.St} {H : Hp} {Q : VK} (q : tE c W (fun env h => (ms env h).bind fun rs h1 => ok1 (.tup (boxAll rs h1).1) (boxAll rs h1).2) σ H Q) : tTup (tEs c W ms) σ H Q := by
  obtain ⟨ι, env, h, re, rh, a⟩ := q
  refine ⟨ι, env, h, re, rh, ?_⟩
  cases e : ms env h with
  | bad => dsimp only at a; rw [e] at a; exact a
  | exc x h' => dsimp only at a; rw [e] at a; exact a
  | ok rs h' =>
    dsimp only at a
    rw [e, Res.bind_ok] at a
    intro ι1 H1 vs s1 R1 ws
    refine ⟨by rw [← ws.length, hm _ _ _ _ e]; exact hn, fun p np => ?_⟩
    obtain ⟨ι3, e3, s3, R3, d3⟩ := RRs.box (h := h') s1 R1 ws
    exact a ι3 _ (.ref p) (s3.trans (Stp.upd np)) (R3.upd np) (RD.tup (SqT.of upd_same) (d3.mono (Stp.upd np)))
theorem lst_rd {n : Nat} (hn : n ≤ sizeLine) {ms : Env → Hm → Res (List RV)} (hm : ∀ env h rs h', ms env h = .ok rs h' → rs.length = n) {σ : L2.St} {H : Hp} {Q : VK} (q : tE c W (fun env h => (ms env h).bind fun rs h1 => .ok (.l (boxAll rs h1).1) (boxAll rs h1).2) σ H Q) : tLst (tEs c W ms) σ H Q := by
  obtain ⟨ι, env, h, re, rh, a⟩ := q
  refine ⟨ι, env, h, re, rh, ?_⟩
  cases e : ms env h with
  | bad => dsimp only at a; rw [e] at a; exact a
  | exc x h' => dsimp only at a; rw [e] at a; exact a
  | ok rs h' =>
    dsimp only at a
    rw [e, Res.bind_ok] at a
    intro ι1 H1 vs s1 R1 ws
    refine ⟨by rw [← ws.length, hm _ _ _ _ e]; exact hn, fun p np => ?_⟩
    obtain ⟨ι3, e3, s3, R3, d3⟩ := RRs.box (h := h') s1 R1 ws
    exact a ι3 _ (.ref p) (s3.trans (Stp.upd np)) (R3.upd np) ⟨p, vs, rfl, upd_same, R3.notIn np, s3.dom _ np, d3.mono (Stp.upd np)⟩
theorem se_tup {n : Nat} (hn : n ≤ sizeLine) {es : List Expr} {j : Nat} {pos : Pos} {ms : Env → Hm → Res (List RV)} (hm : ∀ env h rs h', ms env h = .ok rs h' → rs.length = n) (ha : PA X es (tEs c W ms)) :
    PE X (.Tuple es j pos) (tE c W fun env h => (ms env h).bind fun rs h1 => ok1 (.tup (boxAll rs h1).1) (boxAll rs h1).2) :=
  pe_weaken (pe_tup ha) fun σ H Q q => tup_rd hn hm q
theorem se_lst {n : Nat} (hn : n ≤ sizeLine) {es : List Expr} {pos : Pos} {ms : Env → Hm → Res (List RV)} (hm : ∀ env h rs h', ms env h = .ok rs h' → rs.length = n) (ha : PA X es (tEs c W ms)) :
    PE X (.List es pos) (tE c W fun env h => (ms env h).bind fun rs h1 => .ok (.l (boxAll rs h1).1) (boxAll rs h1).2) :=
  pe_weaken (pe_lst ha) fun σ H Q q => lst_rd hn hm q
theorem se_dic {pos : Pos} : PE X (.Dict [] [] pos) (tE c W fun _ h => .ok (.v (.ref h.length)) (h ++ [.dic []])) :=
  pe_weaken pe_dnewK fun σ H Q q => by
    obtain ⟨ι, env, h, re, rh, a⟩ := q
    intro p np
    refine a (ι ++ [p]) _ (.ref p) ((Stp.upd np).box (R := rh.upd np) (rh.notIn np) np) ((rh.upd np).box (rh.notIn np) ⟨[], upd_same, .nil⟩) (.ref ?_)
    rw [List.getElem?_append_right (by rw [rh.len]; exact Nat.le_refl _), rh.len, Nat.sub_self]; rfl
theorem se_dic1 {kx vx : Expr} {pos : Pos} {mk mv : Env → Hm → Res RV} (hk : PE X kx (tE c W mk)) (hv : PE X vx (tE c W mv)) :
    PE X (.Dict [some kx] [vx] pos) (tE c W fun env h => (mk env (h ++ [.dic []])).bind fun x h1 => (mv env h1).bind fun y h2 => dic1F h.length x y h2) :=
  pe_weaken (pe_disp (pps_cons hk hv pps_nil) rfl rfl (by simp) (Nat.le_add_left 1 14)) fun σ H Q q => by
    obtain ⟨ι, env, h, re, rh, a⟩ := q
    intro p np
    have s0 : Stp ι H (ι ++ [p]) (L2.upd H p (.dK [])) := (Stp.upd np).box (R := rh.upd np) (rh.notIn np) np
    have R0 : RH c (ι ++ [p]) (L2.upd H p (.dK [])) (h ++ [.dic []]) := (rh.upd np).box (rh.notIn np) ⟨[], upd_same, .nil⟩
    have ep : (ι ++ [p])[h.length]? = some p := by rw [List.getElem?_append_right (by rw [rh.len]; exact Nat.le_refl _), rh.len, Nat.sub_self]; rfl
    refine ⟨ι ++ [p], env, h ++ [.dic []], re.mono s0, R0, After.bind (After.from a s0) fun r h1 ι1 H1 v s1 R1 w a1 => ⟨ι1, env, h1, (re.mono s0).mono s1, R1, After.bind0 a1 fun r2 h2 ι2 H2 v2 s2 R2 w2 a2 => ?_⟩⟩
    unfold dic1F at a2
    split at a2
    · rename_i d e2
      split at a2
      · rename_i k ek
        have ep2 : ι2[h.length]? = some p := s2.get (s1.get ep)
        obtain ⟨ks, e3, rk⟩ := R2.obj _ _ p e2 ep2
        have ks0 : ks = [] := by cases rk; rfl
        subst ks0
        have wd : RD c ι1 H1 d v := w
        have ev : v = kV (kI k) := rd_key (show key1 d = some k from ek) wd
        obtain ⟨ι3, x3, s3, R3, d3, _⟩ := RR.box s2 R2 w2
        have ep3 : ι3[h.length]? = some p := by
          obtain ⟨⟨t, et⟩⟩ := x3
          rw [et, List.getElem?_append_left (by rw [R2.len]; exact (List.getElem?_eq_some_iff.mp e2).1)]
          exact ep2
        have sw : Stp ι3 H2 ι3 (L2.upd H2 p (.dK [(kI k, v2)])) := Stp.write R3 (List.mem_of_getElem? ep3) (nf_dic e3)
        refine ⟨e3, [(kI k, v2)], by rw [ev]; rfl, by simp, ?_⟩
        exact a2 ι3 _ (.ref p) (s3.trans sw) (R3.write ep3 (nf_dic e3) ⟨_, upd_same, .cons ek (d3.mono sw) .nil⟩) (.ref ep3)
      · exact a2.elim
    · exact a2.elim
/-! ### comprehensions -/
def ownP (own : List Nat) (N : List Str) : List (Str × Nat) := own.map fun i => ((N[i]?).getD "", i)
theorem ownP_snd (own : List Nat) (N : List Str) : (ownP own N).map (·.2) = own := by
  unfold ownP
  rw [List.map_map]
  exact List.map_id'' (fun _ => rfl) _
def blkAc (scope : Scope) : Str → Bool := fun x => scope.names.lookup x == some .cell
theorem Cok.blk (C : Cok X c N sc ac k T G cf W) (scope : Scope) (s : Shared) (H : Hp) (Cc : Addr) (cl : List (Str × Addr)) (fp : List Addr) :
    Cok (X.blk s H scope (compEnvC scope cl Cc X.env) fp) c N (relS scope sc) (blkAc scope) k T G cf WF where
  n := C.n
  nd := C.nd
  s := by
    show (compEnvC scope cl Cc X.env).scope = relS scope sc
    rw [← C.s]
    rfl
  K := C.K
  calm := C.calm
  room := C.room
  fn := fun x h => h
  fns := C.fns
  kfn := C.kfn
  fnF := C.fnF
  fnN := C.fnN
  free := C.free
  glb := C.glb
  lamE := C.lamE
  tk := fun u s' h => by
    unfold XE at h
    simp only [and_false, exists_false] at h
  pass := PassesOwn.never
def foldB (e : Expr) : Bool := match e with
  | .Set .. => false
  | _ => true
theorem fold_ok {e : Expr} (h : foldB e = true) (env : PySem.Env) : ∀ x, foldedSetIterable e env x = pure x := by
  intro x
  cases e <;> first | rfl | cases h
noncomputable def compM (mI : Env → Hm → Res Src) (t : MT) (own : List Nat) (mT : Env → Hm → Res Bool) (me : Env → Hm → Res RV) : Env → Hm → Res RV := fun env h => (mI env h).bind fun s h1 => (compL (stepM t own mT me env) s.conds s.items h1).bind fun ds h2 => .ok (.l ds) h2
theorem se_comp (C : Cok X c N sc ac k T G cf W) {elt tg iter : Expr} {ifs : List Expr} {scope : Scope} {own : List Nat} {t : MT} {pos : Pos} {mI : Env → Hm → Res Src} {mT : Env → Hm → Res Bool} {me : Env → Hm → Res RV}
    (hi : PI X tg iter (tI c W mI)) (ok : BlkOk N sc scope (ownP own N)) (ho : ∀ i ∈ t.slots, i ∈ own) (hg : chkT N (relS scope sc) (blkAc scope) t tg = true) (hf : foldB iter = true)
    (ht : ∀ X', Cok X' c N (relS scope sc) (blkAc scope) k T G cf WF → PTs X' ifs (tTs c WF mT)) (he : ∀ X', Cok X' c N (relS scope sc) (blkAc scope) k T G cf WF → PE X' elt (tE c WF me)) :
    PE X (.ListComp elt [⟨tg, iter, ifs, 0⟩] scope pos) (tE c W (compM mI t own mT me)) := by
  have ok' : BlkOk X.N X.env.scope scope (ownP own N) := by rw [C.n, C.s]; exact ok
  refine pe_weaken (pe_lc C.calm (by rw [C.n]; exact C.nd) hi ok' (fun s H Cc cl fp => pg_ok (C.blk scope s H Cc cl fp) hg) (fun s H Cc cl fp => ht _ (C.blk scope s H Cc cl fp)) (fun s H Cc cl fp => he _ (C.blk scope s H Cc cl fp)) (fold_ok hf _)) fun σ H Q q => ?_
  rw [ownP_snd]
  exact comp_rd ho q
theorem pts_weaken {es : List Expr} {t t' : TT} (h : PTs X es t) (w : ∀ σ H Q, t' σ H Q → t σ H Q) : PTs X es t' := ⟨fun pins s σ H Q I q => h.run pins s σ H Q I (w σ H Q q)⟩
theorem pts_mnil : PTs X [] (tTs c W fun _ h => .ok true h) := pts_weaken pts_nil fun σ H Q q => by
  obtain ⟨ι, env, h, re, rh, a⟩ := q
  exact a ι H true Stp.refl rh rfl
def tsF (ms : Hm → Res Bool) (x : RV) (h1 : Hm) : Res Bool := match x with
  | .v (.bl true) => ms h1
  | .v (.bl false) => .ok false h1
  | _ => .bad
theorem pts_mone {e : Expr} {m : Env → Hm → Res RV} (he : PT X e (tT c W m)) : PTs X [e] (tTs c W fun env h => (m env h).bind (tsF fun h => .ok true h)) := pts_weaken (pts_one he) fun σ H Q q => by
  obtain ⟨ι, env, h, re, rh, a⟩ := q
  refine tT_of re rh ?_
  have e1 : tstM m env h = (m env h).bind (tsF fun h => .ok true h) := by
    unfold tstM
    cases m env h with
    | bad => rfl
    | exc x h' => rfl
    | ok r h' =>
      rw [Res.bind_ok, Res.bind_ok]
      cases r with
      | l xs => rfl
      | v d =>
        cases d with
        | bl b => cases b <;> rfl
        | _ => rfl
  rw [e1]
  exact a
/-! ### a dict walked -/
theorem se_lk {e : Expr} {m : Env → Hm → Res RV} {i : Nat} (he : PE X e (tE c W m)) : PE X e (tE c W (lkM i m)) := by
  refine ⟨fun pins s σ H Q I hq => ?_⟩
  obtain ⟨ι, env, h, re, rh, a⟩ := hq
  unfold lkM at a
  split at a
  · rename_i n kvs e0
    obtain ⟨e1, e2⟩ := lkAt_some e0
    obtain ⟨v0, g0, w0⟩ := re.2 i _ e1
    obtain ⟨a1, ks, _, ea, g1, g2⟩ := ro_dic rh e2 (show RW c ι H (.v (.ref n)) v0 from w0)
    refine (pe_lock he).run pins s σ H Q I ⟨a1, .dK ks, g1, trivial, fun od => ?_⟩
    obtain ⟨s1, R1⟩ := rh.lock (x := od) ea e2 g1
    refine ⟨ι, env, _, re.mono s1, R1, ?_⟩
    cases q : m env (h.set n (.fdc kvs)) with
    | bad => rw [q] at a; exact a.elim
    | exc x h1 => rw [q] at a; exact a.elim
    | ok o h1 =>
      rw [q, Res.noexc_ok, Res.bind_ok] at a
      unfold unlk at a
      split at a
      · rename_i kvs2 e3
        have m1 : a1 ∈ ι := List.mem_of_getElem? ea
        intro ι' H' v s R w
        have frz : H' a1 = some (.frz od (.dK ks)) := s.frz a1 od _ upd_same
        refine ⟨frz, a ι' _ v (s.unlock m1 g1) (R.unlock (s.get ea) e3 frz) (w.unlock (fun b z => ?_) (s.sub m1) frz)⟩
        have zb : b ≠ a1 := fun q => by rw [q, upd_same] at z; cases z
        rwa [upd_ne zb] at z
      · exact a.elim
  · exact he.run pins s σ H Q I ⟨ι, env, h, re, rh, a⟩
/-! ### what loops walk -/
theorem star1 {e : Expr} {env : PySem.Env} (h : plainA e = true) : starEach [e] env = [(false, eval e env)] := starEach_plain h
theorem star2 {e f : Expr} {env : PySem.Env} (h : plainA e = true) (g : plainA f = true) : starEach [e, f] env = [(false, eval e env), (false, eval f env)] := by
  rw [starEach_plain h, star1 g]
theorem pi_rng1 (C : Cok X c N sc ac k T G cf W) {tg a : Expr} {p pos : Pos} {ms : Env → Hm → Res (List RV)} (hm : ∀ env h rs h', ms env h = .ok rs h' → rs.length = 1) (h1 : ("range" : Str) ∈ T.free) (h2 : glB sc "range" = true) (hp : plainA a = true) (ha : PA X [a] (tEs c W ms)) :
    PI X tg (.Call (.Name "range" p) [a] [] pos) (tI c W (rngM ms)) :=
  pi_weaken (pi_range1 (glB_ok C h2) (C.free _ h1) ha (star1 hp)) fun σ H R q => rng1 hm q
theorem pi_rng2 (C : Cok X c N sc ac k T G cf W) {tg a b : Expr} {p pos : Pos} {ms : Env → Hm → Res (List RV)} (hm : ∀ env h rs h', ms env h = .ok rs h' → rs.length = 2) (h1 : ("range" : Str) ∈ T.free) (h2 : glB sc "range" = true) (hp : plainA a = true) (hp2 : plainA b = true) (ha : PA X [a, b] (tEs c W ms)) :
    PI X tg (.Call (.Name "range" p) [a, b] [] pos) (tI c W (rngM ms)) :=
  pi_weaken (pi_range2 (glB_ok C h2) (C.free _ h1) ha (star2 hp hp2) (star1 hp2)) fun σ H R q => rng2 hm q
theorem pi_enumM (C : Cok X c N sc ac k T G cf W) {e : Expr} {elts : List Expr} {kk : Nat} {tpos p pos : Pos} {m : Env → Hm → Res RV} (h1 : ("enumerate" : Str) ∈ T.free) (h2 : glB sc "enumerate" = true) (hp : plainA e = true) (he : PE X e (tE c W m)) :
    PI X (.Tuple elts kk tpos) (.Call (.Name "enumerate" p) [e] [] pos) (tI c W (enumM m)) :=
  pi_weaken (pi_enum (glB_ok C h2) (C.free _ h1) (arg1 he (star1 hp)) (star1 hp)) fun σ H R q => enum_rd C.K q
theorem pi_revM (C : Cok X c N sc ac k T G cf W) {tg e : Expr} {p pos : Pos} {m : Env → Hm → Res RV} (h1 : ("reversed" : Str) ∈ T.free) (h2 : glB sc "reversed" = true) (hp : plainA e = true) (he : PE X e (tE c W m)) :
    PI X tg (.Call (.Name "reversed" p) [e] [] pos) (tI c W (revM m)) :=
  pi_weaken (pi_reversed (glB_ok C h2) (C.free _ h1) (arg1 he (star1 hp)) (star1 hp)) fun σ H R q => rev_rd C.K q
theorem pi_zipM (C : Cok X c N sc ac k T G cf W) {e e2 : Expr} {elts : List Expr} {kk : Nat} {tpos p pos : Pos} {m m2 : Env → Hm → Res RV} (h1 : ("zip" : Str) ∈ T.free) (h2 : glB sc "zip" = true) (hp : plainA e = true) (hp2 : plainA e2 = true) (he : PE X e (tE c W m)) (he2 : PE X e2 (tE c W m2)) :
    PI X (.Tuple elts kk tpos) (.Call (.Name "zip" p) [e, e2] [] pos) (tI c W (zipM m m2)) :=
  pi_weaken (pi_zip (glB_ok C h2) (C.free _ h1) (pa_cons he (arg1 he2 (star1 hp2)) (starEach_plain hp)) (starEach_plain hp) (starEach_all (by rw [List.all_cons, hp2]; rfl)).1) fun σ H R q => zip_rd C.K q
theorem pi_zipTM (C : Cok X c N sc ac k T G cf W) {e e2 : Expr} {elts : List Expr} {kk : Nat} {tpos p pos : Pos} {m m2 : Env → Hm → Res RV} (h1 : ("zip" : Str) ∈ T.free) (h2 : glB sc "zip" = true) (hp : plainA e = true) (hp2 : plainA e2 = true) (he : PE X e (tE c W m)) (he2 : PE X e2 (tE c W m2)) :
    PI X (.Tuple elts kk tpos) (.Call (.Name "zip" p) [e, e2] [] pos) (tI c W (zipTM m m2)) :=
  pi_weaken (RZ.pi_zipA (glB_ok C h2) (C.free _ h1) (pa_cons he (arg1 he2 (star1 hp2)) (starEach_plain hp)) (starEach_plain hp) (starEach_all (by rw [List.all_cons, hp2]; rfl)).1) fun σ H R q => zipT_rd C.K q
end
end MP

/-! MP4f: a[::-1]. -/
namespace MP
open PySem PySem.Spec PyProof.Rows L2
section
variable {prog : Program} {w : World} {A : Around} {E : Value → Shared → Prop} {s : Shared}
theorem sliceApplied_back {sl : Addr} {vl vu vs : Value} {n : Nat} {Q : Int × Int × Nat → Shared → Prop} (hs : s.heap.IsSliceOf sl vl vu vs) (pl : IsPart vl none) (pu : IsPart vu none) (ps : IsPart vs (some (-1)))
    (h : Q ((n : Int) - 1, -1, n) s) : wpAny (model prog w) A (Builtin.Slice.sliceApplied (.ref sl) (pure (n : Int))) Q E s := by
  obtain ⟨os, hos, hcs, hds⟩ := id hs
  unfold Builtin.Slice.sliceApplied Builtin.Slice.sliceFields
  refine wpAny_bind (wpAny_bind (wpAny_field hos hds (x := vl) rfl (wpAny_bind (wpAny_field hos hds (x := vu) rfl (wpAny_bind (wpAny_field hos hds (x := vs) rfl (wpAny_pure ?_)))))))
  refine wpAny_bind (HT.slicePart_ ps ?_)
  show wpAny _ _ (if ((-1 : Int) == 0) = true then _ else _) _ _ s
  rw [if_neg (by decide)]
  refine wpAny_bind (HT.slicePart_ pl (wpAny_bind (HT.slicePart_ pu (wpAny_bind (wpAny_pure ?_)))))
  show wpAny _ _ (pure ((n : Int) - 1, (-1 : Int), Builtin.Slice.slicePlaces ((n : Int) - 1) (-1) (-1))) _ _ s
  have e : Builtin.Slice.slicePlaces ((n : Int) - 1) (-1) (-1) = n := by
    unfold Builtin.Slice.slicePlaces
    rw [if_neg (by decide)]
    by_cases q : (n : Int) - 1 > -1
    · rw [if_pos q, show (- -1 : Int) = 1 by decide, Int.ediv_one]
      omega
    · rw [if_neg q]
      omega
  rw [e]
  exact wpAny_pure h
theorem pick_back (xs : Array Value) : ((List.range xs.size).filterMap fun (m : Nat) => xs[(((xs.size : Int) - 1) + (m : Int) * -1).toNat]?).toArray = xs.toList.reverse.toArray := by
  have e : (fun (m : Nat) => xs[(((xs.size : Int) - 1) + (m : Int) * -1).toNat]?) = (xs[·]?) ∘ fun k => xs.size - 1 - k := by
    funext m
    show _ = xs[xs.size - 1 - m]?
    congr 1
    omega
  rw [e, ← List.filterMap_map, PySem.W.krv_range, List.filterMap_reverse, PySem.W.krv_all]
theorem getItem_tuple_back {t sl : Addr} {items : Array Value} {vl vu vs : Value} {Q : Value → Shared → Prop} (ht : IsTup s.heap t items) (hs : s.heap.IsSliceOf sl vl vu vs) (pl : IsPart vl none) (pu : IsPart vu none) (ps : IsPart vs (some (-1)))
    (h : Q (.ref s.heap.objs.size) { s with heap := s.heap.push { cls := .type "tuple", data := .seq items.toList.reverse.toArray } })
    (hsz : items.size ≤ sizeLine) : wpAny (model prog w) A (getItem (.ref t) (.ref sl)) Q E s := by
  have htake : sizeOk (.seq items.toList.reverse.toArray) := by
    show items.toList.reverse.toArray.size ≤ sizeLine
    rw [List.size_toArray, List.length_reverse, Array.length_toList]
    exact hsz
  obtain ⟨os, hos, hcs, hds⟩ := id hs
  have hTs : s.TypeIs (.ref sl) "slice" := ⟨os, hos, hcs⟩
  unfold getItem
  try with_reducible refine wpAny_holding ?_
  first | refine wpAny_bind (wpAny_pure ?_) | skip
  refine wpAny_bind (wpAny_sequenceKey ht.typeIs (by decide) ?_)
  refine wpAny_bind (wpAny_callSpecial?_slot (name := Str.ofString "__getitem__") ht.typeIs PyProof.Rows.slot_tuple_getitem
    (wpAny_call_entry PyProof.Rows.slot_tuple_getitem ht.typeIs entry_tuple_getitem ?_ (args_tuple_getitem _ _)))
  show wpAny _ _ (Builtin.Tuple.tupleItemsOf (.ref t) >>= _) _ _ s
  refine wpAny_bind (tupleItemsOf_ ht ?_)
  refine wpAny_bind (wpAny_typeOf hTs ?_)
  rw [if_pos (by decide)]
  refine wpAny_bind (sliceApplied_back hs pl pu ps ?_)
  have hno : ¬ ((((items.size : Int) - 1) == 0 && (-1 : Int) == 1 && items.size == items.size) = true) := by
    intro q
    rw [Bool.and_eq_true, Bool.and_eq_true] at q
    exact absurd q.1.2 (by decide)
  show wpAny _ _ (if (((items.size : Int) - 1) == 0 && (-1 : Int) == 1 && items.size == items.size) = true then _ else _) _ _ s
  rw [if_neg hno, pick_back]
  first
    | exact wpAny_bind (m := Builtin.Tuple.tupleExact _) (wpAny_newObj_type (wpAny_pure ⟨_, rfl, wpAny_pure h⟩) htake)
    | exact wpAny_bind (m := Builtin.Tuple.tupleExact _) (wpAny_newObj_type (wpAny_bind (wpAny_pure (wpAny_pure ⟨_, rfl, wpAny_pure h⟩))) htake)
    | exact wpAny_bind (wpAny_bind (m := Builtin.Tuple.tupleExact _) (wpAny_newObj_type (wpAny_pure (wpAny_pure ⟨_, rfl, wpAny_pure h⟩)) htake))
    | exact wpAny_bind (wpAny_bind (m := Builtin.Tuple.tupleExact _) (wpAny_newObj_type (wpAny_pure ⟨_, rfl, wpAny_pure h⟩) htake))
end
theorem str_back (z : Tx) : ((PySem.Builtin.Str.strSliceIndices none none (-1) z.length).filterMap (z.toArray[·]?)) = z.reverse := by
  have e : PySem.Builtin.Str.strSliceIndices none none (-1) z.length = sliceRange ((z.length : Int) - 1) (-1) (-1) := rfl
  have := PySem.W.krv_all z.toArray
  rw [e, PySem.W.krv_sliceRange, PySem.W.krv_range, List.filterMap_reverse]
  rw [show z.length = z.toArray.size by simp, this]
section
variable {X : Cx} {c : Cn} {N : List Str} {sc : Scope} {ac : Str → Bool} {k : Nat} {T : Tb} {G : Nat → D} {cf : Nat → List D → Hm → Res D} {W : WX}
theorem slrF_nx : ∀ r h x h', slrF r h ≠ .exc x h' := by
  intro r h x h' e
  unfold slrF at e
  repeat' split at e
  all_goals cases e
theorem RDs.reverse {ι : List Addr} {H : Hp} : ∀ {ds : List D} {vs : List V}, RDs c ι H ds vs → RDs c ι H ds.reverse vs.reverse
  | _, _, .nil => .nil
  | _, _, .cons h r => by
    rw [List.reverse_cons, List.reverse_cons]
    exact (RDs.reverse r).append (.one h)
def rSlr (c : Cn) : V → Hp → VK → Prop := fun x H Q => ∃ ι h r, RH c ι H h ∧ RW c ι H r x ∧ After c ι H (slrF r h) (RR c H) Q fun _ _ => False
theorem pe_rev (hK : X.K = c.K) {e : Expr} {te : TE} {k : Nat} {p1 p2 p3 pos : Pos} (he : PE X e te) : PE X (.Subscript e (.Slice none none (some (.UnaryOp .USub (.Constant (.int 1) k p1) p2)) p3) pos) fun σ H Q => te σ H fun x H1 => rSlr c x H1 Q := by
  refine ⟨fun pins s σ H Q I h => ?_⟩
  obtain ⟨K0, F0, X0, T0⟩ := c
  obtain rfl : X.K = K0 := hK
  refine Subscript_ (thn (he.run pins s σ H _ I h) fun v s1 ⟨x, H1, I1, r1, q1⟩ => ?_)
  have hst : PO X (some (.UnaryOp .USub (.Constant (.int 1) k p1) p2)) (tPart (tUn (rU fun i => .int (-i)) (tC (.int 1)))) := po_some (pe_un un_neg pe_int)
  refine wpAny_Slice (thn (po_none.run pins s1 σ H1 (fun o H2 => o = none ∧ H2 = H1) I1 ⟨rfl, rfl⟩) fun vl s2 ⟨l, H2, I2, pl, el, e2⟩ => ?_)
  subst el e2
  refine thn (po_none.run pins s2 σ H2 (fun o H3 => o = none ∧ H3 = H2) I2 ⟨rfl, rfl⟩) fun vu s3 ⟨u, H3, I3, pu, eu, e3⟩ => ?_
  subst eu e3
  refine thn (hst.run pins s3 σ H3 (fun o H4 => o = some (-1) ∧ H4 = H3) I3 ⟨1, rfl, -1, rfl, rfl, rfl⟩) fun vs s4 ⟨o, H4, I4, ps, eo, e4⟩ => ?_
  subst eo e4
  have I5 : L2.Inv X pins σ H4 { s4 with heap := s4.heap.push { cls := .type "slice", data := .fields #[vl, vu, vs] } } := I4.kept (t' := s4.toks) fun b ob q => Heap.get?_push_of_some _ q
  show wpAny (model X.prog X.w) X.A (subscriptTail e (.Slice none none (some (.UnaryOp .USub (.Constant (.int 1) k p1) p2)) p3) v (.ref s4.heap.objs.size)) (EP X pins σ Q) X.xe { s4 with heap := s4.heap.push { cls := .type "slice", data := .fields #[vl, vu, vs] } }
  obtain ⟨ι, h5, r, R, w1, a⟩ := q1
  unfold slrF at a
  split at a
  · split at a
    · rename_i z hl
      cases rw_str w1
      obtain ⟨t, rfl⟩ := r1
      refine tail_any (ops := [.str (st z) t, .ref s4.heap.objs.size]) (typeIs_str _ _ _) F.slot_str_getitem.lookup ?_ (by with_unfolding_all rfl)
      obtain ⟨os, hos, hcs, hds⟩ := Heap.IsSliceOf.new s4.heap vl vu vs
      obtain ⟨l, rfl, el⟩ := IsPart.raw pl
      obtain ⟨u, rfl, eu⟩ := IsPart.raw pu
      obtain ⟨w, rfl, ew⟩ := IsPart.raw ps
      refine wpAny_getItem_str_slice (l := l) (u := u) (st := w) ⟨os, hos, hcs, hds⟩ (by rw [ew]; rfl) ?_
      have hzl : (st z).length = z.length := by show Array.size _ = _; simp
      unfold sliceMade slicePicked
      rw [ew, el, eu, hzl]
      show Made.post (if ((-1 : Int) == 1 && (Builtin.Str.strSliceIndices none none (-1) z.length).length == z.length) = true then Made.val (.str (st z) t) else Made.str ⟨((Builtin.Str.strSliceIndices none none (-1) z.length).filterMap ((st z).cps[·]?)).toArray⟩) (EP X pins σ Q) _
      rw [if_neg (by simp)]
      have e9 : (⟨((Builtin.Str.strSliceIndices none none (-1) z.length).filterMap ((st z).cps[·]?)).toArray⟩ : Str) = st z.reverse := by
        show (⟨((Builtin.Str.strSliceIndices none none (-1) z.length).filterMap (z.toArray[·]?)).toArray⟩ : Str) = _
        rw [str_back]
      rw [e9]
      refine ⟨?_, .str _, H4, I5.tok _, ⟨_, rfl⟩, end1 a R (.str _)⟩
      show Array.size _ ≤ _
      rw [sl_eq]
      simpa using hl
    · exact a.elim
  · rename_i xs
    obtain ⟨a1, ws, rfl, h1, d1⟩ := rw_tup w1
    cases r1
    obtain ⟨its, rv, ht, hz⟩ := I5.tuple h1
    have hlen := rv.length
    refine tail_any (ops := [.ref a1, .ref s4.heap.objs.size]) ht.typeIs PyProof.Rows.slot_tuple_getitem.lookup ?_ (by with_unfolding_all rfl)
    refine getItem_tuple_back ht (Heap.IsSliceOf.new _ vl vu vs) pl pu ps ?_ (by rw [List.size_toArray]; omega)
    refine ⟨.ref _, _, I5.laid (t' := s4.toks) (o := .tup ws.reverse) (fun b ob q => Heap.get?_push_of_some _ q) (Nat.le_refl _) ?_, rfl, endT a R (I5.hok.fresh (Nat.le_refl _)) (d1.reverse)⟩
    exact ⟨by rw [List.length_reverse]; exact hz, _, rv.reverse, IsTup.new _ _⟩
  · split at a
    · rename_i xs e1
      obtain ⟨a1, ws, rfl, h1, d1⟩ := rw_lst R w1 e1
      cases r1
      obtain ⟨its, rv, ht, hz⟩ := I5.list h1
      have hlen := rv.length
      refine tail_any (ops := [.ref a1, .ref s4.heap.objs.size]) ht.isList.typeIs (PySem.slot_list_getitem.lookup) ?_ (by with_unfolding_all rfl)
      refine wpAny_getItem_list_slice ht.isList (Heap.IsSliceOf.new _ vl vu vs) pl pu ps (by decide) ?_ (by rw [List.size_toArray]; omega)
      rw [PySem.W.krv_pick]
      refine ⟨.ref _, _, I5.laid (t' := s4.toks) (o := .lst ws.reverse) (fun b ob q => Heap.get?_push_of_some _ q) (Nat.le_refl _) ?_, rfl, endN a R (I5.hok.fresh (Nat.le_refl _)) d1.reverse⟩
      exact ⟨by rw [List.length_reverse]; exact hz, _, 0, rv.reverse, Heap.get?_push_size _ rfl⟩
    · exact a.elim
theorem se_slr (C : Cok X c N sc ac k T G cf W) {a : Expr} {j : Nat} {p1 p2 p3 pos : Pos} {ma : Env → Hm → Res RV} (ha : PE X a (tE c W ma)) :
    SE X c W (.Subscript a (.Slice none none (some (.UnaryOp .USub (.Constant (.int 1) j p1) p2)) p3) pos) fun env h => (ma env h).bind slrF := by
  refine se_val (pe_weaken (pe_rev C.K ha) fun σ H Q q => ?_) (by intro _; rfl)
  obtain ⟨ι, env, h, re, rh, a⟩ := un_rd q
  exact ⟨ι, env, h, re, rh, a.mono (fun _ _ _ _ _ z => z) fun x H1 ⟨ι1, h1, r, R1, w, a1⟩ => ⟨ι1, h1, r, R1, w, res_nx (slrF_nx _ _) a1⟩⟩
/-! ### a[lo:hi:st] -/
theorem RDs.pick {ι : List Addr} {H : Hp} {ds : List D} {vs : List V} (r : RDs c ι H ds vs) : ∀ is : List Nat, RDs c ι H (is.filterMap (ds[·]?)) (is.filterMap (vs[·]?))
  | [] => .nil
  | i :: is => by
    have l := r.length
    by_cases h : i < ds.length
    · obtain ⟨v, e, d⟩ := r.get (List.getElem?_eq_getElem h)
      rw [List.filterMap_cons, List.filterMap_cons, List.getElem?_eq_getElem h, e]
      exact .cons d (r.pick is)
    · rw [List.filterMap_cons, List.filterMap_cons, List.getElem?_eq_none (by omega), List.getElem?_eq_none (by omega)]
      exact r.pick is
theorem RDs.cut3 {ι : List Addr} {H : Hp} {ds : List D} {vs : List V} (r : RDs c ι H ds vs) (lo hi : Option Int) (st : Int) : RDs c ι H (MP.cut3 ds lo hi st) (MP.cut3 vs lo hi st) := by
  unfold MP.cut3
  rw [r.length]
  exact r.pick _
theorem vals_pick {vs : List V} {us : List Value} (r : Vals vs us) : ∀ is : List Nat, Vals (is.filterMap (vs[·]?)) (is.filterMap (us[·]?))
  | [] => .nil
  | i :: is => by
    have l := r.length
    by_cases h : i < vs.length
    · obtain ⟨u, e, d⟩ := r.get (List.getElem?_eq_getElem h)
      rw [List.filterMap_cons, List.filterMap_cons, List.getElem?_eq_getElem h, e]
      exact .cons d (vals_pick r is)
    · rw [List.filterMap_cons, List.filterMap_cons, List.getElem?_eq_none (by omega), List.getElem?_eq_none (by omega)]
      exact vals_pick r is
theorem slF3_nx : ∀ r lo hi st h x h', slF3 r lo hi st h ≠ .exc x h' := by
  intro r lo hi st h x h' e
  unfold slF3 at e
  repeat' split at e
  all_goals cases e
def rSl3 (c : Cn) : V → Option Int → Option Int → Option Int → Hp → VK → Prop := fun x lo hi st H Q => ∃ ι h r, RH c ι H h ∧ RW c ι H r x ∧ After c ι H (slF3 r lo hi st h) (RR c H) Q fun _ _ => False
theorem pe_sl3 (hK : X.K = c.K) {e zx : Expr} {lo hi : Option Expr} {te : TE} {tl th tz : TO} {p2 pos : Pos} (he : PE X e te) (hl : PO X lo tl) (hh : PO X hi th) (hz : PO X (some zx) tz) :
    PE X (.Subscript e (.Slice lo hi (some zx) p2) pos) fun σ H Q => te σ H fun x H1 => tl σ H1 fun l H2 => th σ H2 fun u H3 => tz σ H3 fun z H4 => rSl3 c x l u z H4 Q := by
  refine ⟨fun pins s σ H Q I h => ?_⟩
  obtain ⟨K0, F0, X0, T0⟩ := c
  obtain rfl : X.K = K0 := hK
  refine Subscript_ (thn (he.run pins s σ H _ I h) fun v s1 ⟨x, H1, I1, r1, q1⟩ => ?_)
  refine wpAny_Slice (thn (hl.run pins s1 σ H1 _ I1 q1) fun vl s2 ⟨l, H2, I2, pl, q2⟩ => ?_)
  refine thn (hh.run pins s2 σ H2 _ I2 q2) fun vu s3 ⟨u, H3, I3, pu, q3⟩ => ?_
  refine thn (hz.run pins s3 σ H3 _ I3 q3) fun vs s4 ⟨o, H4, I4, ps, q4⟩ => ?_
  have I5 : L2.Inv X pins σ H4 { s4 with heap := s4.heap.push { cls := .type "slice", data := .fields #[vl, vu, vs] } } := I4.kept (t' := s4.toks) fun b ob q => Heap.get?_push_of_some _ q
  show wpAny (model X.prog X.w) X.A (subscriptTail e (.Slice lo hi (some zx) p2) v (.ref s4.heap.objs.size)) (EP X pins σ Q) X.xe { s4 with heap := s4.heap.push { cls := .type "slice", data := .fields #[vl, vu, vs] } }
  obtain ⟨ι, h5, r, R, w1, a⟩ := q4
  unfold slF3 at a
  split at a
  · rename_i xs k e1
    split at a
    · rename_i hk
      obtain ⟨a1, ws, rfl, h1, d1⟩ := rw_lst R w1 e1
      cases r1
      obtain ⟨its, rv, ht, hz⟩ := I5.list h1
      have hlen := rv.length
      refine tail_any (ops := [.ref a1, .ref s4.heap.objs.size]) ht.isList.typeIs (PySem.slot_list_getitem.lookup) ?_ (by with_unfolding_all rfl)
      refine wpAny_getItem_list_slice ht.isList (Heap.IsSliceOf.new _ vl vu vs) pl pu ps (by intro z; cases z; exact hk.1 rfl) ?_ (by rw [List.size_toArray]; omega)
      have dd := d1.cut3 l u k
      have ln : (MP.cut3 ws l u k).length ≤ sizeLine := by rw [← dd.length, sl_eq]; exact hk.2
      have ep : slicePick its.toArray l u (some k) = ((sliceRange (sliceBounds l u (some k) ws.length).1 (sliceBounds l u (some k) ws.length).2.1 (sliceBounds l u (some k) ws.length).2.2).filterMap (its[·]?)).toArray := by
        unfold slicePick
        rw [List.size_toArray, ← hlen]
        simp only [List.getElem?_toArray]
      rw [ep]
      refine ⟨.ref _, _, I5.laid (t' := s4.toks) (o := .lst (MP.cut3 ws l u k)) (fun b ob q => Heap.get?_push_of_some _ q) (Nat.le_refl _) ?_, rfl, endN a R (I5.hok.fresh (Nat.le_refl _)) dd⟩
      exact ⟨ln, _, 0, vals_pick rv _, Heap.get?_push_size _ rfl⟩
    · exact a.elim
  · exact a.elim
theorem sl3_rd {ma : Env → Hm → Res RV} {ml mh mz : Env → Hm → Res (Option Int)} {σ : L2.St} {H : Hp} {Q : VK} (q : tE c W (fun env h => (ma env h).bind fun x h1 => (ml env h1).bind fun l h2 => (mh env h2).bind fun u h3 => (mz env h3).bind fun z h4 => slF3 x l u z h4) σ H Q) :
    tE c W ma σ H fun x H1 => tOi c W ml σ H1 fun l H2 => tOi c W mh σ H2 fun u H3 => tOi c W mz σ H3 fun z H4 => rSl3 c x l u z H4 Q := by
  obtain ⟨ι, env, h, re, rh, a⟩ := q
  refine ⟨ι, env, h, re, rh, a.bind fun r h1 ι1 H1 v s1 R1 w a1 => ⟨ι1, env, h1, re.mono s1, R1, a1.bind fun l h2 ι2 H2 l' s2 R2 el a2 => ⟨ι2, env, h2, (re.mono s1).mono s2, R2, a2.bind fun u h3 ι3 H3 u' s3 R3 eu a3 => ⟨ι3, env, h3, ((re.mono s1).mono s2).mono s3, R3, a3.bind fun z h4 ι4 H4 z' s4 R4 ez a4 => ?_⟩⟩⟩⟩
  subst el eu ez
  refine ⟨ι4, h4, r, R4, (((w.mono s2).mono s3).mono s4).w, ?_⟩
  refine res_nx (W1 := fun _ _ => False) (slF3_nx _ _ _ _ _) ?_
  cases e : slF3 r l u z h4 with
  | bad => rw [e] at a4; exact a4
  | exc x h' => exact absurd e (slF3_nx _ _ _ _ _ _ _)
  | ok y h' =>
    rw [e] at a4
    exact fun ι' H' v3 s5 R5 w5 => a4 ι' H' v3 s5 R5 (w5.base fun b n => s1.dom b (s2.dom b (s3.dom b (s4.dom b n))))
theorem se_sl3 (C : Cok X c N sc ac k T G cf W) {a zx : Expr} {lo hi : Option Expr} {p2 pos : Pos} {ma : Env → Hm → Res RV} {ml mh mz : Env → Hm → Res (Option Int)} (ha : PE X a (tE c W ma)) (hl : PO X lo (tOi c W ml)) (hh : PO X hi (tOi c W mh)) (hz : PO X (some zx) (tOi c W mz)) :
    SE X c W (.Subscript a (.Slice lo hi (some zx) p2) pos) fun env h => (ma env h).bind fun x h1 => (ml env h1).bind fun l h2 => (mh env h2).bind fun u h3 => (mz env h3).bind fun z h4 => slF3 x l u z h4 :=
  se_val (pe_weaken (pe_sl3 C.K ha hl hh hz) fun σ H Q q => sl3_rd q) (by intro _; rfl)
/-! ### {k: v, ..} -/
def twos : List V → List (V × V)
  | x :: y :: r => (x, y) :: twos r
  | _ => []
/-- a display's pairs -/
def PDs (X : Cx) (c : Cn) (W : WX) (pos : Pos) (ks : List (Option Expr)) (vs : List Expr) (ms : Env → Hm → Res (List RV)) : Prop :=
  ks.all (·.isSome) = true ∧ ks.length = vs.length ∧ ∃ trs, PPs X pos ks vs trs ∧ ∀ σ H Q, tEs c W ms σ H (fun us H' => Q (twos us) H') → tPairs trs σ H Q
theorem pd_nil {pos : Pos} : PDs X c W pos [] [] fun _ h => .ok [] h := ⟨rfl, rfl, [], pps_nil, fun σ H Q q => by
  obtain ⟨ι, env, h, re, rh, a⟩ := q
  exact a ι H [] Stp.refl rh .nil⟩
theorem pd_cons {pos : Pos} {kx vx : Expr} {ks : List (Option Expr)} {vs : List Expr} {mk mv : Env → Hm → Res RV} {ms : Env → Hm → Res (List RV)} (hk : PE X kx (tE c W mk)) (hv : PE X vx (tE c W mv)) (r : PDs X c W pos ks vs ms) :
    PDs X c W pos (some kx :: ks) (vx :: vs) fun env h => (mk env h).bind fun x h1 => ((mv env h1).bind fun y h2 => (ms env h2).bind fun xs h3 => .ok (y :: xs) h3).bind fun xs h3 => .ok (x :: xs) h3 := by
  obtain ⟨h1, h2, trs, hp, ht⟩ := r
  refine ⟨by rw [List.all_cons, h1]; rfl, by rw [List.length_cons, List.length_cons, h2], _, pps_cons hk hv hp, fun σ H Q q => ?_⟩
  have q1 : tE c W mk σ H fun x H1 => tEs c W (fun env h1 => (mv env h1).bind fun y h2 => (ms env h2).bind fun xs h3 => .ok (y :: xs) h3) σ H1 fun xs H2 => Q (twos (x :: xs)) H2 := tEs_cons q
  show tE c W mk σ H fun x H1 => tE c W mv σ H1 fun y H2 => tPairs trs σ H2 fun ps H3 => Q ((x, y) :: ps) H3
  obtain ⟨ι, env, h, re, rh, a⟩ := q1
  refine ⟨ι, env, h, re, rh, a.mono (fun _ _ _ _ _ z => z) fun x H1 q2 => ?_⟩
  have q3 : tE c W mv σ H1 fun y H2 => tEs c W ms σ H2 fun xs H3 => Q (twos (x :: y :: xs)) H3 := tEs_cons q2
  obtain ⟨ι, env, h, re, rh, a⟩ := q3
  refine ⟨ι, env, h, re, rh, a.mono (fun _ _ _ _ _ z => z) fun y H2 q4 => ht σ H2 _ q4⟩
theorem twos_rd {ι : List Addr} {H : Hp} : ∀ {ds : List D} {vs : List V} {kvs : List (D × D)}, RDs c ι H ds vs → pairsD ds = some kvs → ∃ ks : List (Key × V), RKs c ι H kvs ks ∧ twos vs = ks.map fun kv => (kV kv.1, kv.2)
  | _, _, _, .nil, e => by
    cases e
    exact ⟨[], .nil, rfl⟩
  | _, _, _, .cons _ .nil, e => by cases e
  | k :: v :: ds, _, _, .cons hk (.cons hv r), e => by
    unfold pairsD at e
    split at e
    · rename_i kk kvs e1 e2
      cases e
      obtain ⟨ks, g, t⟩ := twos_rd r e2
      refine ⟨(kI kk, _) :: ks, .cons e1 hv g, ?_⟩
      rw [rd_key e1 hk]
      show (kV (kI kk), _) :: twos _ = _
      rw [t]; rfl
    · cases e
theorem se_dicN {pos : Pos} {ks : List (Option Expr)} {vs : List Expr} {ms : Env → Hm → Res (List RV)} (hp : PDs X c W pos ks vs ms) (h0 : ks ≠ []) (h15 : ks.length ≤ 15) :
    PE X (.Dict ks vs pos) (tE c W fun env h => (ms env (h ++ [.dic []])).bind fun rs h1 => dicNF h.length rs h1) := by
  obtain ⟨h1, h2, trs, hp, ht⟩ := hp
  refine pe_weaken (pe_disp hp h1 h2 h0 h15) fun σ H Q q => ?_
  obtain ⟨ι, env, h, re, rh, a⟩ := q
  intro p np
  have s0 : Stp ι H (ι ++ [p]) (L2.upd H p (.dK [])) := (Stp.upd np).box (R := rh.upd np) (rh.notIn np) np
  have R0 : RH c (ι ++ [p]) (L2.upd H p (.dK [])) (h ++ [.dic []]) := (rh.upd np).box (rh.notIn np) ⟨[], upd_same, .nil⟩
  have ep : (ι ++ [p])[h.length]? = some p := by rw [List.getElem?_append_right (by rw [rh.len]; exact Nat.le_refl _), rh.len, Nat.sub_self]; rfl
  refine ht σ _ _ ⟨ι ++ [p], env, h ++ [.dic []], re.mono s0, R0, After.bind0 (After.from a s0) fun rs h1 ι1 H1 us s1 R1 ws a1 => ?_⟩
  unfold dicNF at a1
  split at a1
  · rename_i kvs e2 e4
    split at a1
    · rename_i l15
      have ep1 : ι1[h.length]? = some p := s1.get ep
      obtain ⟨ks0, e3, rk⟩ := R1.obj _ _ p e2 ep1
      have hk0 : ks0 = [] := by cases rk; rfl
      subst hk0
      obtain ⟨ι3, x3, s3, R3, d3⟩ := RRs.box (h := h1) s1 R1 ws
      have ep3 : ι3[h.length]? = some p := by
        obtain ⟨⟨t, et⟩⟩ := x3
        rw [et, List.getElem?_append_left (by rw [R1.len]; exact (List.getElem?_eq_some_iff.mp e2).1)]
        exact ep1
      obtain ⟨kk, rk, tw⟩ := twos_rd d3 e4
      have lk : kk.length = kvs.length := by
        clear tw a1 e4 l15 e2
        induction rk with
        | nil => rfl
        | cons _ _ _ ih => rw [List.length_cons, List.length_cons, ih]
      have sw : Stp ι3 H1 ι3 (L2.upd H1 p (.dK (mergeK [] kk))) := Stp.write R3 (List.mem_of_getElem? ep3) (nf_dic e3)
      refine ⟨e3, kk, tw, by rw [lk]; exact l15, ?_⟩
      have a2 : After c (ι ++ [p]) (L2.upd H p (.dK [])) (.ok (.v (.ref h.length)) ((boxAll rs h1).2.set h.length (.dic (mergeD [] kvs)))) (RR c (L2.upd H p (.dK []))) Q fun e H' => W (c.X e) none σ H' := a1
      exact a2 ι3 _ (.ref p) (s3.trans sw) (R3.write ep3 (nf_dic e3) ⟨_, upd_same, (merge_rd rk .nil List.nodup_nil).mono sw⟩) (.ref ep3)
    · exact a1.elim
  · exact a1.elim
end
end MP

/-! MP4k: sorted by a key function. -/
namespace MP
open PySem PySem.Spec PyProof.Rows L2
open PySem.W (EachIs AllAlike Sortable KeepsBut dataKind)
/-- two records of ours turned, one of them tracked from now on -/
theorem Inv.take2 {X : Cx} {pins : List (Addr × Obj)} {σ : L2.St} {H : Hp} {s : Shared} {h' : Heap} {t' : Nat} {p q : Addr} {o : HO} (I : L2.Inv X pins σ H s) (k : ∀ b ob, b ≠ p → b ≠ q → s.heap.get? b = some ob → h'.get? b = some ob)
    (f : FpOk X pins H p) (g : FpOk X pins H q) (new : ObjOk X.prog X.w (L2.upd H p o) h' p o) : L2.Inv X pins σ (L2.upd H p o) { s with heap := h', toks := t' } := by
  obtain ⟨hn, hL, _, h1, h2, h3⟩ := f
  obtain ⟨gn, gL, _, g1, g2, g3⟩ := g
  have np : ∀ b u, H b = some u → b ≠ p := fun b u e z => by rw [z, hn] at e; cases e
  have nq : ∀ b u, H b = some u → b ≠ q := fun b u e z => by rw [z, gn] at e; cases e
  have up : ∀ b u, H b = some u → L2.upd H p o b = some u := fun b u e => by rw [upd_ne (np b u e)]; exact e
  have out : ∀ {b : Addr}, b ∉ [p, q] → b ≠ p ∧ b ≠ q := fun hb => ⟨fun z => hb (by simp [z]), fun z => hb (by simp [z])⟩
  refine I.step (g' := s.gens) (d' := s.drawn) (ch := [p, q]) (fun b hb => ?_) (fun b ob _ _ hc e _ => k b ob (out hc).1 (out hc).2 e) (fun b ob _ _ hc e _ => ⟨ob.slots, k b ob (out hc).1 (out hc).2 e⟩)
    (fun b ob hc _ n => by rw [upd_ne (out hc).1]; exact n) (fun b ob hc e => ⟨ob, k b ob (out hc).1 (out hc).2 e⟩) (fun b _ e => up b _ e) (fun b _ _ e => up b _ e) (fun b ps e => ⟨#[], by rw [up b _ e]; simp⟩) (fun m hm => ?_) (fun b u e => ?_) I.bare
  · rcases List.mem_cons.mp hb with z | z
    · subst z; exact ⟨h1, hL, h2, h3⟩
    · rw [List.mem_singleton.mp z]; exact ⟨g1, gL, g2, g3⟩
  · obtain ⟨ob, es, ep, ho, r⟩ := hm
    exact ⟨ob, es, ep, k _ ob (Ne.symm hL) (Ne.symm gL) ho, r⟩
  · by_cases hb : b = p
    · rw [hb, upd_same] at e
      cases e
      rw [hb]
      exact new
    · rw [upd_ne hb] at e
      refine (I.hok b u e).stay (fun c v hc w => ?_) (fun c w => up c _ w) fun c _ w => up c _ w
      rcases hc with z | z
      · rw [z] at w ⊢; exact k b v hb (nq b u e) w
      · exact k c v (np c _ z) (nq c _ z) w
theorem without (h : Heap) (q : Addr) : ∃ g : Heap, g.get? q = none ∧ ∀ b, b ≠ q → g.get? b = h.get? b := by
  obtain ⟨g, g1, g2⟩ := L2.restrict h fun b => b != q
  exact ⟨g, g2 q (by simp), fun b hb => g1 b (by simpa using hb)⟩
section
variable {X : Cx} {c : Cn} {pins : List (Addr × Obj)} {σ : L2.St} {h : Hm} {ι : List Addr} {H : Hp}
/-- a record that is ours, behind a call -/
theorem fp_after {H' : Hp} {h1 h2 : Heap} {b : Addr} {ob : Obj} (u : Un (frs X.stack) [] H H' h1 h2) (f : FpOk X pins H b) (nf : b ∉ frs X.stack) (e : h1.get? b = some ob) : FpOk X pins H' b ∧ h2.get? b = some ob := by
  obtain ⟨hn, hL, hf, hx, hc, hp⟩ := f
  exact ⟨⟨u.free b ob e hn List.not_mem_nil, hL, hf, hx, hc, hp⟩, u.keep b ob e hn nf List.not_mem_nil⟩
theorem each_of {R : V → Value → Prop} : ∀ {xs : List V} {us : List Value}, EachIs (fun u x => R x u) us xs → ∀ (j : Nat) (x : V), xs[j]? = some x → ∃ u, us[j]? = some u ∧ R x u
  | [], [], _, _, _, e => by simp at e
  | _ :: _, _ :: _, .cons h t, 0, x, e => by simp at e; subst e; exact ⟨_, rfl, h⟩
  | _ :: _, _ :: _, .cons h t, j + 1, x, e => by
    obtain ⟨u, h1, h2⟩ := each_of (R := R) t j x (by simpa using e)
    exact ⟨u, by simpa using h1, h2⟩
/-- keys as data -/
theorem keys_read {s : Shared} (hK : X.K = c.K) (I : L2.Inv X pins σ H s) (R : RH c ι H h) : ∀ {ks : List D} {ps : List PyData} {vs : List V} {us : List Value}, mapO (toP h 62) ks = some ps → RDs c ι H ks vs → Vals vs us → EachIs (fun v k => ∃ as, Reads s.heap v k as) us ps ∧ ∀ p ∈ ps, p.depth ≤ 62
  | [], _, _, _, e, .nil, .nil => by cases e; exact ⟨.nil, fun _ m => by cases m⟩
  | k :: ks, _, _, _, e, .cons g gs, .cons r rs => by
    obtain ⟨p, ps, h1, h2, rfl⟩ := mapO_cons e
    obtain ⟨a1, _, a3⟩ := toP_ok R 62 _ _ _ h1 g
    obtain ⟨b1, b2⟩ := keys_read hK I R h2 gs rs
    refine ⟨.cons (Dp.reads I p _ _ (hK ▸ a1) r) b1, fun q m => ?_⟩
    rcases List.mem_cons.mp m with z | z
    · rw [z]; exact a3
    · exact b2 q z
/-- what the loop over the items holds -/
def KInv (X : Cx) (c : Cn) (pins : List (Addr × Obj)) (σ : L2.St) (ι : List Addr) (H : Hp) (h : Hm) (ks : List D) (p q : Addr) (e1 : Nat) (j : Nat) (s' : Shared) : Prop :=
  ∃ (ι' : List Addr) (H' : Hp) (kA : Array Value) (e : Nat) (vs : List V), L2.Inv X pins σ H' s' ∧ Stp ι H ι' H' ∧ RH c ι' H' h ∧ FpOk X pins H' p ∧ FpOk X pins H' q ∧ s'.heap.get? q = some (seqObj "list" kA e) ∧ s'.heap.get? p = some (seqObj "list" #[] e1) ∧
    RDs c ι' H' (ks.take j) vs ∧ Vals vs kA.toList
theorem mapO_get {α β : Type} {f : α → Option β} : ∀ {xs : List α} {ys : List β} {i : Nat} {x : α}, mapO f xs = some ys → xs[i]? = some x → ∃ y, ys[i]? = some y ∧ f x = some y
  | [], _, _, _, _, e => by simp at e
  | z :: xs, _, 0, x, h, e => by
    obtain ⟨y, ys, h1, _, rfl⟩ := mapO_cons h
    simp at e; subst e
    exact ⟨y, rfl, h1⟩
  | z :: xs, _, i + 1, x, h, e => by
    obtain ⟨y, ys, _, h2, rfl⟩ := mapO_cons h
    obtain ⟨w, a, b⟩ := mapO_get (i := i) h2 (show xs[i]? = some x by simpa using e)
    exact ⟨w, by simpa using a, b⟩
theorem keyOf_some {g : List D → Hm → Res D} {h : Hm} {d k : D} (e : keyOf g h d = some k) : g [d] h = .ok k h := by
  unfold keyOf at e
  split at e
  · rename_i k' h' q
    split at e
    · rename_i z
      cases e
      rw [q, z]
    · cases e
  · cases e
theorem each_zip {ι : List Addr} {H : Hp} : ∀ {ds : List D} {ps : List PyData} {xs : List V} {us : List Value}, ds.length = ps.length → RDs c ι H ds xs → Vals xs us → EachIs (fun u (b : D × PyData) => ∃ x, RelV x u ∧ RD c ι H b.1 x) us (ds.zip ps)
  | [], [], _, _, _, .nil, .nil => .nil
  | d :: ds, p :: ps, _, _, l, .cons g gs, .cons r rs => .cons ⟨_, r, g⟩ (each_zip (by simpa using l) gs rs)
  | [], _ :: _, _, _, l, _, _ => by cases l
  | _ :: _, [], _, _, l, _, _ => by cases l
theorem each_back {ι : List Addr} {H : Hp} : ∀ {bs : List (D × PyData)} {us : List Value}, EachIs (fun u (b : D × PyData) => ∃ x, RelV x u ∧ RD c ι H b.1 x) us bs → ∃ ys, Vals ys us ∧ RDs c ι H (bs.map (·.1)) ys
  | [], [], _ => ⟨[], .nil, .nil⟩
  | b :: bs, u :: us, .cons ⟨x, r, g⟩ t => by
    obtain ⟨ys, h1, h2⟩ := each_back t
    exact ⟨x :: ys, .cons r h1, .cons g h2⟩
theorem zip_snd {α β : Type} : ∀ {xs : List α} {ys : List β}, xs.length = ys.length → (xs.zip ys).map (·.2) = ys
  | [], [], _ => rfl
  | x :: xs, y :: ys, l => by rw [List.zip_cons_cons, List.map_cons, zip_snd (by simpa using l)]
  | [], _ :: _, l => by cases l
  | _ :: _, [], l => by cases l
theorem key_rest {g : List D → Hm → Res D} {f : Addr} {fd : FuncData} {fps : List Str} {m : Nat} (hK : X.K = c.K) (hb : Binds X.K fd fps []) (hr : Room m X.A.in1.in1) (F : FnOk X.prog X.w X.K X.mg X.base (L2.CX X.prog X.w) m f fd fps (spM c g))
    {ds ks : List D} {ps : List PyData} {xs : List V} {us : List Value} (R : RH c ι H h) (rx : RDs c ι H ds xs) (vx : Vals xs us) (hk : mapO (keyOf g h) ds = some ks) (hp : mapO (toP h 62) ks = some ps) (hal : AllAlike ps) (hsk : Sortable ps) (hl : ds.length ≤ sizeLine)
    {p q : Addr} {e1 : Nat} {s : Shared} {P : PySem.Fin → Shared → Prop} {E : Value → Shared → Prop} (I : L2.Inv X pins σ H s) (fp : FpOk X pins H p) (fq : FpOk X pins H q) (hpq : q ≠ p) (eq : s.heap.get? q = some (seqObj "list" #[] 0)) (ep : s.heap.get? p = some (seqObj "list" #[] e1))
    (fin : ∀ (ι' : List Addr) (H' : Hp) (s' : Shared) (ys : List V), Stp ι H ι' H' → RH c ι' H' h → H' p = none → L2.Inv X pins σ (L2.upd H' p (.lst ys)) s' → RDs c ι' H' (byKey ds ps) ys → P (.done (.ret .none)) s') :
    wpAny (model X.prog X.w) X.A.in1.in1 (PyProof.Rows.ksk_rest p (.ref f) false us.toArray e1 (.ref q)) P E s := by
  have l1 : us.length = ds.length := by rw [rx.length, vx.length]
  have l2 : ks.length = ds.length := mapO_len hk
  have l3 : ps.length = ds.length := by rw [mapO_len hp, l2]
  unfold PyProof.Rows.ksk_rest
  refine wpAny_bind (wpAny_rule ?_)
  rw [List.forIn_toArray]
  refine wpAny_bind (PyProof.Rows.ksk_fold (fun j s' => KInv X c pins σ ι H h ks p q e1 j s') us 0 s ⟨ι, H, #[], 0, [], I, Stp.refl, R, fp, fq, eq, ep, by rw [List.take_zero]; exact .nil, .nil⟩ ?step ?done)
  case step =>
    intro j u s' eu K
    rw [Nat.zero_add] at K ⊢
    obtain ⟨ι', H', kA, e, vs, I', st, R', fp', fq', eq', ep', rk, vk⟩ := K
    have hj : j < us.length := (List.getElem?_eq_some_iff.mp eu).1
    obtain ⟨d, x, e2, gx, ru⟩ := (rx.mono st).item vx hj
    have eu2 : us[j] = u := by
      have := List.getElem?_eq_getElem hj
      rw [eu] at this; exact (Option.some.inj this).symm
    rw [eu2] at ru
    obtain ⟨k, ek, kk⟩ := mapO_get hk e2
    have kr := keyOf_some kk
    have hz : kA.size ≤ ds.length := by
      have h1 := vk.length
      have h2 := rk.length
      rw [List.length_take] at h2
      rw [← Array.length_toList, ← h1, ← h2]
      omega
    have e0 := I'.env0
    have en : Env0 X.prog X.w X.K X.mg X.base X.A.in1.in1 X.stack s' H' := ⟨e0.frames, e0.mod, e0.bs, e0.bsz, e0.funs, e0.frf, e0.hok, e0.bare⟩
    have nf : ∀ {b : Addr}, FpOk X pins H' b → b ∉ frs X.stack := fun f hb => by
      rcases List.mem_cons.mp (I'.stkSub _ hb) with z | z
      · exact f.2.1 z
      · exact f.2.2.1 z
    have sp : spM c g ([x] ++ []) H' (fun v H2 => ∃ ι2, Stp ι' H' ι2 H2 ∧ RH c ι2 H2 h ∧ RD c ι2 H2 k v) (fun _ _ _ => False) := by
      refine ⟨ι', h, [d], .one gx, R', ?_⟩
      rw [kr]
      exact fun ι2 H2 v s2 R2 g2 => ⟨ι2, s2, R2, g2⟩
    have hlen : ([u] ++ [] : List Value).length = fps.length := by
      have := F.len _ _ _ _ sp
      exact this
    refine wpAny_bind (wpAny_attempt (wpAny_call (codeAny_mono (F.run X.A.in1.in1 X.stack s' H' ⟨[u], []⟩ ([u] ++ []) ([x] ++ []) _ _ hr en (hb s' [u] I'.kIn hlen) (.cons ru .nil) sp) fun r s2 hq => ?_)))
    cases r with
    | error ex =>
      obtain ⟨_, _, _, _, _, _, _, _, _, _, _, _, hE⟩ := hq
      exact hE.elim
    | ok fl =>
      cases fl with
      | next => exact False.elim hq
      | brk => exact False.elim hq
      | cont => exact False.elim hq
      | ret v =>
        obtain ⟨v', H2, os, bare, un, hok, rv, ι2, st2, R2, g2⟩ := hq
        have I2 : L2.Inv X pins σ H2 s2 := I'.call' os un hok bare (fun b y => absurd y List.not_mem_nil)
        obtain ⟨fp2, ep2⟩ := fp_after un fp' (nf fp') ep'
        obtain ⟨fq2, eq2⟩ := fp_after un fq' (nf fq') eq'
        try dsimp only
        have s1 := Heap.SameBut.update s2.heap q (Obj.mapSeq (·.push v))
        obtain ⟨c2, hc2⟩ : ∃ c2, (s2.heap.update q (Obj.mapSeq (·.push v))).get? q = some (seqObj "list" (kA.push v) c2) := ⟨_, get?_update_seq eq2 (·.push v)⟩
        have ets : ks.take (j + 1) = ks.take j ++ [k] := by rw [List.take_add_one, ek]; simp
        refine wpAny_bind (listUpdate_at eq2 rfl ?_ (Nat.le_trans hz hl) (Nat.le_trans (Nat.le_of_eq (Array.size_push ..)) (Nat.succ_le_succ (Nat.le_trans hz hl))))
        refine wpAny_pure ⟨rfl, ι2, H2, kA.push v, c2, vs ++ [v'], ?_, st.trans st2, R2, fp2, fq2, hc2, (s1.2 p hpq.symm).trans ep2, ?_, ?_⟩
        · exact I2.turned (t' := s2.toks) (fun b o hb eb => (s1.2 b hb).trans eb) fq2.1 fq2.2.1 fq2.2.2.2.1 fq2.2.2.2.2.1 fq2.2.2.2.2.2
        · rw [ets]; exact (rk.mono st2).append (.one g2)
        · rw [show (kA.push v).toList = kA.toList ++ [v] by simp]
          exact vk.append (.cons rv .nil)
  case done =>
    intro s' K
    rw [Nat.zero_add] at K
    obtain ⟨ι', H', kA, e, vs, I', st, R', fp', fq', eq', ep', rk, vk⟩ := K
    rw [List.take_of_length_le (by omega)] at rk
    obtain ⟨er, dp⟩ := keys_read hK I' R' hp rk vk
    have hsz : kA.size = us.length := by
      rw [← Array.length_toList, ← vk.length, ← rk.length, l2, l1]
    obtain ⟨g1, n1, n2⟩ := without s'.heap q
    try dsimp only
    refine wpAny_bind (listItems_at eq' rfl ?_)
    have hu : ∀ d ∈ ps, X.A.in1.in1.units + d.depth < cLine := fun d m => by
      have := dp d m
      have := hr.un
      omega
    refine PySem.W.keyH_end (κ := dataKind s'.heap ps) (h₁ := g1) (fun b o hb eb => ?_) n1 eq' ep' hpq (PySem.W.SortsAt.data (s := s') er hal hsk hu) hsz (by omega) fun h3 tk3 c3 k3 n3 => ?_
    · have hbq : b ≠ q := fun z => by rw [z, n1] at eb; cases eb
      rw [← n2 b hbq]; exact eb
    · have ko : PySem.W.KeyedOut false ((ds.zip ps).map (·.2)) us (PySem.W.sortVals (dataKind s'.heap ps) false kA.toList us) := by
        rw [zip_snd l3.symm]
        exact ⟨s'.heap, kA.toList, hal, rfl, er⟩
      have ee := PySem.W.keyedOut_each (·.2) ko (each_zip l3.symm (rx.mono st) vx)
      obtain ⟨ys, v1, r1⟩ := each_back ee
      refine fin ι' H' _ ys st R' fp'.1 (Inv.take2 I' (fun b ob hbp hbq eb => k3 b ob hbp ?_) fp' fq' ⟨?_, _, c3, v1, n3⟩) r1
      · rw [n2 b hbq]; exact eb
      · rw [← r1.length, List.length_map, List.length_mergeSort, List.length_zip, l3, Nat.min_self]; exact hl
abbrev kwKey (f : Addr) : List (Str × Value) := [(Str.ofString "key", .ref f)]
theorem key_sort {g : List D → Hm → Res D} {f : Addr} {fd : FuncData} {fps : List Str} {m : Nat} (hK : X.K = c.K) (hb : Binds X.K fd fps []) (hr : Room m X.A.in1.in1) (F : FnOk X.prog X.w X.K X.mg X.base (L2.CX X.prog X.w) m f fd fps (spM c g))
    {ds ks : List D} {ps : List PyData} {xs : List V} {us : List Value} (R : RH c ι H h) (rx : RDs c ι H ds xs) (vx : Vals xs us) (hk : mapO (keyOf g h) ds = some ks) (hp : mapO (toP h 62) ks = some ps) (hal : AllAlike ps) (hsk : Sortable ps) (hl : ds.length ≤ sizeLine)
    {s : Shared} {P : PySem.Fin → Shared → Prop} {E : Value → Shared → Prop} (I : L2.Inv X pins σ H s)
    (fin : ∀ (ι' : List Addr) (H' : Hp) (s' : Shared) (p : Addr) (ys : List V), Stp ι H ι' H' → RH c ι' H' h → H' p = none → L2.Inv X pins σ (L2.upd H' p (.lst ys)) s' → RDs c ι' H' (byKey ds ps) ys → P (.done (.ret (.ref p))) s') :
    wpAny (model X.prog X.w) X.A.in1 (newList us >>= fun l => holding [l] (call (.builtin "list.sort") [l] (kwKey f)) >>= fun _ => ret l) P E s := by
  have l1 : us.length = ds.length := by rw [rx.length, vx.length]
  refine wpAny_bind (wpAny_newList ?_ (by omega))
  have ho : (s.heap.push (seqObj "list" us.toArray 0)).get? s.heap.objs.size = some (seqObj "list" us.toArray 0) := Heap.get?_push_size _ rfl
  show wpAny _ _ _ _ _ { s with heap := s.heap.push (seqObj "list" us.toArray 0) }
  refine wpAny_bind (wpAny_holding ?_)
  refine PyProof.Rows.wpAny_call_entry_kw PyProof.Rows.slot_list_sort ⟨_, ho, rfl⟩ PyProof.Rows.entry_list_sort ?_ (PyProof.Rows.ksk_l1 _ _)
  rw [PyProof.Rows.ksk_t1]
  obtain ⟨e1, ho1⟩ : ∃ e1, ((s.heap.push (seqObj "list" us.toArray 0)).update s.heap.objs.size (Obj.mapSeq fun _ => (#[] : Array Value))).get? s.heap.objs.size = some (seqObj "list" #[] e1) := ⟨_, get?_update_seq ho fun _ => #[]⟩
  have sb := Heap.SameBut.update (s.heap.push (seqObj "list" us.toArray 0)) s.heap.objs.size (Obj.mapSeq fun _ => (#[] : Array Value))
  have sz : ((s.heap.push (seqObj "list" us.toArray 0)).update s.heap.objs.size (Obj.mapSeq fun _ => (#[] : Array Value))).objs.size = s.heap.objs.size + 1 := by rw [Heap.size_update, size_push']
  unfold PyProof.Rows.ksk_tree
  refine wpAny_bind (listItems_at ho rfl ?_)
  refine wpAny_bind (listUpdate_at ho rfl ?_ (by rw [List.size_toArray]; omega) (Nat.zero_le _))
  refine wpAny_bind (seqEpoch_at ho1 rfl ?_)
  refine wpAny_bind (wpAny_newTuple ?_ (by show us.length ≤ _; omega))
  refine wpAny_bind (wpAny_newList ?_ (Nat.zero_le _))
  refine wpAny_holding ?_
  generalize eg : (s.heap.push (seqObj "list" us.toArray 0)).update s.heap.objs.size (Obj.mapSeq fun _ => (#[] : Array Value)) = g1 at *
  have kk : ∀ b o, s.heap.get? b = some o → ((g1.push (seqObj "tuple" us.toArray 0)).push (seqObj "list" #[] 0)).get? b = some o := fun b o eb =>
    Heap.get?_push_of_some _ (Heap.get?_push_of_some _ ((sb.2 b (Nat.ne_of_lt (Heap.lt_size eb))).trans (Heap.get?_push_of_some _ eb)))
  have sz2 : (g1.push (seqObj "tuple" us.toArray 0)).objs.size = s.heap.objs.size + 2 := by rw [size_push', sz]
  have I3 : L2.Inv X pins σ H { s with heap := (g1.push (seqObj "tuple" us.toArray 0)).push (seqObj "list" #[] 0) } := I.kept (t' := s.toks) kk
  have zq : s.heap.objs.size ≤ (g1.push (seqObj "tuple" us.toArray 0)).objs.size := by rw [sz2]; omega
  have hne : (g1.push (seqObj "tuple" us.toArray 0)).objs.size ≠ s.heap.objs.size := by rw [sz2]; omega
  refine key_rest hK hb hr F R rx vx hk hp hal hsk hl I3 (I.fpOk (Nat.le_refl _) (I.hok.fresh (Nat.le_refl _))) (I.fpOk zq (I.hok.fresh zq)) hne (Heap.get?_push_size _ rfl) (Heap.get?_push_of_some _ (Heap.get?_push_of_some _ ho1)) fun ι' H' s' ys st R' np I' r => ⟨_, rfl, ?_⟩
  exact wpAny_pure (fin ι' H' s' _ ys st R' np I' r)
/-- sorted(x, key=f) -/
def rSrt (c : Cn) (g : List D → Hm → Res D) (f : Addr) : List V → List V → Hp → VK → Prop := fun vs zs H Q => ∃ (v : V) (ι : List Addr) (h : Hm) (r : RV), vs = [v] ∧ zs = [V.ref f] ∧ RH c ι H h ∧ RW c ι H r v ∧ After c ι H (srtF g r h) (RR c H) Q (fun _ _ => False)
theorem cr_sortKey {g : List D → Hm → Res D} {f : Addr} {fd : FuncData} {fps : List Str} {m : Nat} (hc : X.calm = true) (hK : X.K = c.K) (hb : Binds X.K fd fps []) (hr : Room m X.A.in1.in1) (F : FnOk X.prog X.w X.K X.mg X.base (L2.CX X.prog X.w) m f fd fps (spM c g)) :
    CallRK X (.builtin "sorted") [Str.ofString "key"] (rSrt c g f) := by
  intro pins s σ H vs zs us ws Q I r rz hq
  obtain ⟨v, ι, h, rv, rfl, rfl, R, w, a⟩ := hq
  obtain ⟨K0, F0, X0, T0⟩ := c
  obtain rfl : X.K = K0 := hK
  obtain rfl := rz.ref1
  unfold srtF at a
  split at a
  case h_2 => exact a.elim
  rename_i ds e
  split at a
  case h_2 => exact a.elim
  rename_i ks hk
  split at a
  case h_2 => exact a.elim
  rename_i ps hp
  split at a
  case isFalse => exact a.elim
  rename_i hcd
  obtain ⟨hal, hsk, hl⟩ := hcd
  have hl' : ds.length ≤ sizeLine := by rw [sl_eq]; exact hl
  exact items_ok (kw := kwKey f) hc rfl I r R w e (fun _ => PyProof.Rows.ksk_s1 _ _) fun {s1 us1 xs1} I1 g1 v1 _ E =>
    key_sort rfl hb hr F R g1 v1 hk hp hal hsk hl' I1 fun ι' H' s' p ys st R' np I' gy => ⟨_, rfl, .ref p, _, I', rfl, a ι' (L2.upd H' p (.lst ys)) (.ref p) (st.trans (Stp.upd np)) (R'.upd np) ⟨p, ys, rfl, upd_same, R'.notIn np, st.dom _ np, gy.mono (Stp.upd np)⟩⟩
end
section
variable {X : Cx} {c : Cn} {N : List Str} {sc : Scope} {ac : Str → Bool} {k : Nat} {T : Tb} {G : Nat → D} {cf : Nat → List D → Hm → Res D} {W : WX}
def tA1 (te : TE) : TA := fun σ H Q => te σ H fun x H1 => Q [x] H1
theorem pa_lone {e : Expr} {te : TE} (he : PE X e te) (hp : plainA e = true) : PA X [e] (tA1 te) := by
  refine ⟨fun pos pins s σ H Q I h => ?_⟩
  exact (pa_cons he pa_nil (starEach_plain hp)).run pos pins s σ H Q I h
theorem srt_rd {f : Addr} {g : List D → Hm → Res D} {m : Env → Hm → Res RV} {σ : L2.St} {H : Hp} {Q : VK} (q : tE c W (fun env h => (m env h).bind fun r h1 => srtF g r h1) σ H Q) :
    tCKw (rSrt c g f) (tA1 (tE c W m)) (tCons (tC (V.ref f)) tNil) σ H Q := by
  obtain ⟨ι, env, h, re, rh, a⟩ := q
  refine ⟨ι, env, h, re, rh, a.bind fun r h1 ι1 H1 v s1 R1 w a1 => ⟨v, ι1, h1, r, rfl, rfl, R1, w.w, ?_⟩⟩
  have nx : ∀ x h', srtF g r h1 ≠ .exc x h' := fun x h' e => by
    unfold srtF at e
    split at e
    · split at e
      · split at e
        · split at e <;> cases e
        · cases e
      · cases e
    · cases e
  cases e : srtF g r h1 with
  | ok y h2 =>
    rw [e] at a1
    exact fun ι' H' v' s R z => a1 ι' H' v' s R (z.base s1.dom)
  | exc x h2 => exact absurd e (nx x h2)
  | bad => rw [e] at a1; exact a1.elim
theorem se_srt (C : Cok X c N sc ac k T G cf W) {i : Nat} {x : Str} {p p2 p3 pos : Pos} {e : Expr} {m : Env → Hm → Res RV} (h1 : ("sorted" : Str) ∈ T.free) (h2 : glB sc "sorted" = true) (hp : plainA e = true) (he : PE X e (tE c W m))
    (h3 : T.names[i]? = some x) (h4 : glB sc x = true) (h5 : okName x = true) : SE X c W (.Call (.Name "sorted" p) [e] [⟨some "key", .Name x p2, p3⟩] pos) fun env h => (m env h).bind fun r h1 => srtF (cf (i + KOFF)) r h1 := by
  obtain ⟨f, fd, ps, j, e1, e2, e3, e4⟩ := C.kfn i x h3
  refine se_val ?_ (by intro _; rfl)
  have key : PE X (.Name x p2) (tC (V.ref f)) := pe_glob (glB_ok C h4) e1 (v := V.ref f) rfl (okName_ok h5).1
  refine pe_weaken (pe_callBK (cr_sortKey C.calm C.K e2 e3 e4) (glB_ok C h2) (C.free _ h1) (by decide +kernel) (pa_lone he hp) (pk_cons key pk_nil) (by decide +kernel) (by decide +kernel) ?_ ?_ rfl rfl rfl) fun σ H Q q => srt_rd q
  · rw [starEach_plain hp]; rfl
  · exact (starEach_all (by rw [List.all_cons, hp]; rfl)).1
end
end MP

/-! MP4r: list(reversed(list)). -/
namespace RT
open PySem PySem.Spec PyProof.Rows
section
variable {prog : Program} {w : World} {A : Around} {E : Value → Shared → Prop} {s : Shared}
theorem extend_rev {R : Result → Shared → Prop} {it l S : Addr} {items : Array Value} {c₀ : Nat} (hh : A.handled = none) (hit : s.heap.IsRevIter it l ((items.size : Int) - 1)) (hl : s.heap.IsList l items) (hne : l ≠ it) (hn : items.size ≤ sizeLine)
    (hSi : S ≠ it) (hSl : S ≠ l) (hS : s.heap.get? S = some { cls := .type "list", dict := none, data := .seq #[] c₀, slots := #[] })
    (hR : ∀ h' tk acc' c', (∀ b o, b ≠ S → b ≠ it → s.heap.get? b = some o → h'.get? b = some o) → h'.get? S = some { cls := .type "list", dict := none, data := .seq acc' c', slots := #[] } →
      ItemsOf (fun i v => items[items.size - 1 - i]? = some v) acc' items.size → R (.ok (.ret .none)) { s with heap := h', toks := tk }) :
    wpAny (model prog w) A.in1 (Builtin.List.listExtendWith (.ref S) (.ref it) .none)
      (fun fin s' => match fin with | .done f => R (.ok f) s' | .again c' => c'.quiet = true ∧ codeAny (model prog w) A c' R s') (fun e s' => R (.error e) s') s := by
  have W := (Walks.listRev (prog := prog) (w := w) (A := A.in1) hh it l hne items).toS
  have hSf : S ∉ [it, l] := by simp only [List.mem_cons, List.not_mem_nil, or_false, not_or]; exact ⟨hSi, hSl⟩
  have hT : s.TypeIs (.ref it) "list_reverseiterator" := hit.typeIs
  have h1 : Builtin.List.listSameRef (.ref S) (.ref it) = false := by simp [Builtin.List.listSameRef, hSi]
  unfold Builtin.List.listExtendWith
  refine wpAny_bind (wpAny_typeOf hT ?_)
  rw [if_neg (by rw [h1]; decide)]
  refine wpAny_bind (wpAny_pyIter_revIter hit ?_)
  refine wpAny_bind (wpAny_holding ?_)
  unfold Builtin.List.listLengthHint
  refine wpAny_bind (wpAny_specialOf hT nolen_lri ?_)
  show wpAny _ A.in1 (specialOf (Value.ref it) (Str.ofString "__length_hint__") >>= _) _ _ _
  refine wpAny_bind (wpAny_specialOf hT hint_lri ?_)
  generalize hid : ("list_reverseiterator.__length_hint__" : String) = id0
  wp_delta
  rw [show splitId id0 = some ("list_reverseiterator", "__length_hint__") from by subst hid; decide +kernel]
  subst hid
  refine wpAny_bind (wpAny_isInstance (b := true) hT (by rw [isSubtype_type]; kernel_rfl) ?_)
  refine wpAny_pure ?_
  rw [if_neg (by decide)]
  have e0 : ((items.size : Nat) : Int) - 1 - ((0 : Nat) : Int) = (items.size : Int) - 1 := by omega
  refine wpAny_pure ⟨plainId_quiet F.plain_extend_loop _, codeAny_extend_loopS W hn S hSf .none items.size 0 _ _ _ rfl (Nat.zero_le _) ⟨Nat.zero_le _, by rw [e0]; exact hit, hl⟩ hS (ItemsOf.nil _) fun s' acc' c' hm hS' hacc => ?_⟩
  rw [Moved.eq_with hm]
  refine hR s'.heap s'.toks acc' c' (fun b o hb hb2 e => hm.heap b o (fun hmem => ?_) e) hS' hacc
  rcases List.mem_cons.mp hmem with e' | hmem
  · exact hb e'
  · exact hb2 (List.mem_singleton.mp hmem)
theorem call_list_rev {it l : Addr} {items : Array Value} {Q : Value → Shared → Prop} (hh : A.handled = none) (hit : s.heap.IsRevIter it l ((items.size : Int) - 1)) (hl : s.heap.IsList l items) (hne : l ≠ it) (hn : items.size ≤ sizeLine)
    (hQ : ∀ h' tk acc' c', (∀ b o, b ≠ it → s.heap.get? b = some o → h'.get? b = some o) →
      h'.get? s.heap.objs.size = some { cls := .type "list", dict := none, data := .seq acc' c', slots := #[] } → ItemsOf (fun i v => items[items.size - 1 - i]? = some v) acc' items.size → Q (.ref s.heap.objs.size) { s with heap := h', toks := tk }) :
    wpAny (model prog w) A (call (.type "list") [.ref it]) Q E s := by
  obtain ⟨oi, hoi, _⟩ := id hit
  obtain ⟨ol, hol, _⟩ := id hl
  have hSi : s.heap.objs.size ≠ it := Nat.ne_of_gt (Heap.lt_size hoi)
  have hSl : s.heap.objs.size ≠ l := Nat.ne_of_gt (Heap.lt_size hol)
  refine callType_codes (Q₁ := fun obj s₁ => obj = .ref s.heap.objs.size ∧ s₁ = { s with heap := s.heap.push { cls := .type "list", data := .seq #[] } }) F.called_list (F.typeCall_list_1 _) F.entry_list_init
    (code_list_new _ ⟨rfl, rfl⟩) fun obj s₁ h₁ => ?_
  obtain ⟨rfl, rfl⟩ := h₁
  have hS : (s.heap.push { cls := .type "list", data := .seq #[] }).get? s.heap.objs.size = some { cls := .type "list", data := .seq #[] } := Heap.get?_push_size _ rfl
  refine ⟨⟨_, hS, rfl⟩, F.args_list_init_2 _ _, ?_⟩
  show wpAny _ A.in1.in1 (do let old ← Builtin.List.listItems (.ref s.heap.objs.size); Builtin.List.listUpdate (.ref s.heap.objs.size) (fun _ => #[]); letGo old.toList.reverse; Builtin.List.listExtendWith (.ref s.heap.objs.size) (.ref it) .none) _ _ _
  refine wpAny_bind ?_
  unfold Builtin.List.listItems
  refine wpAny_bind (wpAny_seqItems hS rfl (wpAny_pure ?_))
  show wpAny _ _ (updateSeq s.heap.objs.size (fun _ => #[]) >>= fun _ => letGo (#[] : Array Value).toList.reverse >>= fun _ => Builtin.List.listExtendWith (.ref s.heap.objs.size) (.ref it) .none) _ _ _
  refine wpAny_bind (wpAny_updateSeq hS rfl ?_)
  have hS₂ := Heap.get?_update_self (Obj.mapSeq (fun _ => (#[] : Array Value))) hS rfl
  have oth : ∀ b o, b ≠ s.heap.objs.size → s.heap.get? b = some o → ((s.heap.push { cls := .type "list", data := .seq #[] }).update s.heap.objs.size (Obj.mapSeq (fun _ => (#[] : Array Value)))).get? b = some o :=
    fun b o hb e => (Heap.get?_update_other _ _ (Ne.symm hb)).trans (Heap.get?_push_of_some _ e)
  refine wpAny_bind (wpAny_letGo ?_)
  have hit2 : ((s.heap.push { cls := .type "list", data := .seq #[] }).update s.heap.objs.size (Obj.mapSeq (fun _ => (#[] : Array Value)))).IsRevIter it l ((items.size : Int) - 1) := hit.at fun o e => oth it o (Ne.symm hSi) e
  have hl2 : ((s.heap.push { cls := .type "list", data := .seq #[] }).update s.heap.objs.size (Obj.mapSeq (fun _ => (#[] : Array Value)))).IsList l items := by
    obtain ⟨o, ho, r⟩ := hl
    exact ⟨o, oth l o (Ne.symm hSl) ho, r⟩
  refine extend_rev (A := A.in1) hh hit2 hl2 hne hn hSi hSl hS₂ fun h' tk acc' c' hk hS' hacc => ?_
  exact ⟨rfl, hQ h' tk acc' c' (fun b o hb e => hk b o (Nat.ne_of_lt (Heap.lt_size e)) hb (oth b o (Nat.ne_of_lt (Heap.lt_size e)) e)) hS' hacc⟩
end
end RT
namespace MP
open PySem PySem.Spec PyProof.Rows L2
section
variable {X : Cx} {c : Cn} {N : List Str} {sc : Scope} {ac : Str → Bool} {k : Nat} {T : Tb} {G : Nat → D} {cf : Nat → List D → Hm → Res D} {W : WX}
def tListRev (K : PySem.W.Frag) (te : TE) : TE := fun σ H Q => te σ H fun v H1 => ∃ (a : Addr) (xs : List V), v = .ref a ∧ SqL K H1 a xs ∧ ∀ q, H1 q = none → Q (.ref q) (L2.upd H1 q (.lst xs.reverse))
theorem pe_listRev {e : Expr} {te : TE} {p p2 pos pos2 : Pos} (hc : X.calm = true) (hg : Gl X "list") (hm : X.mg "list" = none) (hg2 : Gl X "reversed") (hm2 : X.mg "reversed" = none) (he : PE X e te)
    (hs : starEach [e] X.env = (false, eval e X.env) :: starEach [] X.env := by rfl)
    (hs2 : starEach [.Call (.Name "reversed" p2) [e] [] pos2] X.env = (false, eval (.Call (.Name "reversed" p2) [e] [] pos2) X.env) :: starEach [] X.env := by rfl) :
    PE X (.Call (.Name "list" p) [.Call (.Name "reversed" p2) [e] [] pos2] [] pos) (tListRev X.K te) := by
  refine ⟨fun pins s σ H Q I h => ?_⟩
  refine Call_ (ld_blt I hg hm PyProof.Rows.boot_list (PyProof.Rows.callWith_type1 (args_cons (Call_ (ld_blt I hg2 hm2 PyProof.Rows.boot_reversed (PyProof.Rows.callWith_type1 (args_cons (thn (he.run pins s σ H _ I h) fun u s1 ⟨v, H1, I1, r1, q1⟩ => args_nil ?_) hs) hs rfl))) hs2) hs2 rfl))
  obtain ⟨a, xs, ev, hq, q⟩ := q1
  subst ev
  obtain rfl : u = Value.ref a := r1
  obtain ⟨its, rv, p', hz⟩ := I1.list hq
  refine call_reversed_list p'.isList (args_nil ?_)
  have hl := p'.isList
  obtain ⟨ol, hol, _⟩ := id hl
  have hne : a ≠ s1.heap.objs.size := Nat.ne_of_lt (Heap.lt_size hol)
  have hn : its.toArray.size ≤ sizeLine := by rw [List.size_toArray, ← rv.length]; exact hz
  have hsz : (s1.heap.push (revObj a ((its.toArray.size : Int) - 1))).objs.size = s1.heap.objs.size + 1 := by simp [Heap.push]
  refine RT.call_list_rev (s := { s1 with heap := s1.heap.push (revObj a ((its.toArray.size : Int) - 1)) }) (I1.ok.hd hc) ⟨_, Heap.get?_push_size _ rfl, rfl, rfl⟩ (hl.push _) hne hn fun h' tk acc c' hk hS hi => ?_
  have k : ∀ b o, s1.heap.get? b = some o → h'.get? b = some o := fun b o e => hk b o (Nat.ne_of_lt (Heap.lt_size e)) (Heap.get?_push_of_some _ e)
  refine ⟨.ref _, _, I1.laid (t' := tk) (o := .lst xs.reverse) k (by show _ ≤ (s1.heap.push _).objs.size; rw [hsz]; exact Nat.le_succ _) ?_, rfl, q _ (I1.hok.fresh (by show _ ≤ (s1.heap.push _).objs.size; rw [hsz]; exact Nat.le_succ _))⟩
  refine ⟨by rw [List.length_reverse]; exact hz, acc.toList, c', RT.vals_rev rv hi, ?_⟩
  rw [Array.toArray_toList]
  exact hS
theorem lrevF_nx : ∀ r h x h', lrevF r h ≠ .exc x h' := by
  intro r h x h' e
  unfold lrevF at e
  repeat' split at e
  all_goals cases e
theorem RDs.rev {ι : List Addr} {H : Hp} : ∀ {ds : List D} {vs : List V}, RDs c ι H ds vs → RDs c ι H ds.reverse vs.reverse
  | _, _, .nil => .nil
  | _, _, .cons h r => by
    rw [List.reverse_cons, List.reverse_cons]
    exact (RDs.rev r).append (.one h)
theorem se_lrev (C : Cok X c N sc ac k T G cf W) {e : Expr} {p p2 pos pos2 : Pos} {ma : Env → Hm → Res RV} (h1 : ("list" : Str) ∈ T.free) (h2 : glB sc "list" = true) (g1 : ("reversed" : Str) ∈ T.free) (g2 : glB sc "reversed" = true) (hp : plainA e = true) (ha : PE X e (tE c W ma)) :
    SE X c W (.Call (.Name "list" p) [.Call (.Name "reversed" p2) [e] [] pos2] [] pos) fun env h => (ma env h).bind lrevF := by
  refine se_val (pe_weaken (pe_listRev C.calm (glB_ok C h2) (C.free _ h1) (glB_ok C g2) (C.free _ g1) ha (starEach_plain hp)) fun σ H Q q => ?_) (by intro _; rfl)
  obtain ⟨ι, env, h, re, rh, a⟩ := un_rd q
  refine ⟨ι, env, h, re, rh, a.mono (fun _ _ _ _ _ z => z) fun x H1 ⟨ι1, h1, r, R1, w, a1⟩ => ?_⟩
  have a1 : After c ι1 H1 (lrevF r h1) (RR c H1) Q fun _ _ => False := res_nx (lrevF_nx _ _) a1
  unfold lrevF at a1
  split at a1
  · rename_i xs e1
    obtain ⟨b, ws, rfl, hq, d1⟩ := rw_lst R1 w e1
    exact ⟨b, ws, rfl, by rw [C.K]; exact hq, fun q hn => endN a1 R1 hn d1.rev⟩
  · exact a1.elim
end
end MP

/-! MP4l: sorted by a lambda: x[0] of each item. -/
namespace MP
open PySem PySem.Spec PyProof.Rows L2
open PySem.W (EachIs AllAlike Sortable KeepsBut dataKind)
open LamX (CodeO TabS TabB ExtN)
abbrev lamPs (x : Str) (ap : Pos) : Arguments := ⟨[], [⟨x, none, ap⟩], none, [], [], none, []⟩
abbrev lamOb (q : Str) (p : Arguments) (b : Expr) (sc : Scope) (pm : Value) (cd : Addr) (ctv : Value) : Obj := PySem.W.kla_obj "<lambda>" q p b sc [] pm cd ctv
theorem lam_bind {q x : Str} {ap : Pos} {b : Expr} {sc : Scope} {pm cv ctv u : Value} : bindArgs (PySem.W.kla_fn "<lambda>" q (lamPs x ap) b sc [] pm cv ctv) ⟨[u], []⟩ = pure [(x, u)] := by
  have e : seqItems? Value.none = pure none := rfl
  unfold bindArgs
  simp [e]
theorem lam_run {CX : CXT} {P : Program} {w : World} {K : PySem.W.Frag} {mg : Str → Option Value} {base : Heap} {k : Nat} {f cd : Addr} {q x : Str} {ap : Pos} {b : Expr} {sc : Scope} {pm ctv : Value} {A : Around} {outer : List PySem.Env} {s : Shared} {H : Hp} {u : Value} {v : V} {Q : VK} {E : XK}
    (of1 : s.heap.get? f = some (lamOb q (lamPs x ap) b sc pm cd ctv)) (oc1 : H cd = some (CodeO cd q)) (S : FnScope [x] [x] sc) (hr : Room (k + 1) A) (e0 : Env0 P w K mg base A outer s H) (r : RelV v u)
    (inner : Room k (A.deeper (envOfC q sc s.heap.objs.size f (.ref cd))) → ∃ t, PE (cxOf CX P w K mg base [x] q sc f (.ref cd) A outer s H E) b t ∧ t (L2.start [x] [v]) H Q) : codeAny (model P w) A (.call (.ref f) ⟨[u], []⟩) (CR CX outer P w H s Q E) s := by
  have lm : s.heap.NoLimit := e0.mod.nolimit.keeps fun b o e => (e0.bs b o e).1
  obtain ⟨⟨oc, vs, t, h1, h2, h3⟩, _, _⟩ := e0.hok cd _ oc1
  refine PySem.W.kla_callFunE hr.depth of1 rfl S.co S.gen rfl ⟨cd, oc, vs, t, rfl, h1, h2, h3⟩ ?_
  rw [lam_bind]
  have kinds : ∀ y ∈ [(x, u)], sc.names.lookup y.1 = some .local ∨ (sc.names.lookup y.1 = some .cell ∧ ((cellsFrom (s.heap.objs.size + 1) sc.names []).lookup y.1).isSome = true) := fun y hy => by
    rw [List.mem_singleton.mp hy]
    rcases S.par x List.mem_cons_self with z | z
    · exact .inl z
    · exact .inr ⟨z, PySem.W.cellsFrom_some _ _ _ (.inl z)⟩
  refine wpAny_pure (wpAny_newFunctionEnv_cells S.kind kinds fun env he s1 xx => ?_)
  subst he
  refine ⟨lm.keeps xx.toInCall.keep, PySem.W.kla_codeExpr ?_⟩
  obtain ⟨t, ht, hq⟩ := inner (hr.deeper _)
  have I : L2.Inv (cxOf CX P w K mg base [x] q sc f (.ref cd) A outer s H E) [] (L2.start [x] [v]) H s1 := inv_start S hr.hd e0 rfl (.cons r .nil) xx
  refine wpAny_mono (ht.run [] s1 (L2.start [x] [v]) H Q I hq) (fun v2 s2 z => ?_) fun e s2 z => z
  obtain ⟨v3, H3, J, rv, qq⟩ := z
  exact ⟨v3, H3, J.os, J.bare, J.base, J.hok, rv, qq⟩
section
variable {X : Cx} {c : Cn} {pins : List (Addr × Obj)} {σ : L2.St} {h : Hm} {ι : List Addr} {H : Hp}
theorem Inv.unpin {p : Addr × Obj} {s : Shared} (I : L2.Inv X (p :: pins) σ H s) : L2.Inv X pins σ H s :=
  have k : ∀ z ∈ X.pn ++ pins, z ∈ X.pn ++ p :: pins := fun z hz => by
    rcases List.mem_append.mp hz with w | w
    · exact List.mem_append_left _ w
    · exact List.mem_append_right _ (List.mem_cons_of_mem _ w)
  { I with pin := fun z hz => I.pin z (k z hz) }
theorem Inv.topin {p : Addr × Obj} {s : Shared} (I : L2.Inv X pins σ H s) (e : s.heap.get? p.1 = some p.2) (n : H p.1 = none) (n1 : p.1 ≠ X.env.locals) (n2 : p.1 ∉ X.fs) (n3 : ∀ v, p.2.data ≠ .cell v) : L2.Inv X (p :: pins) σ H s :=
  have k : ∀ z ∈ X.pn ++ p :: pins, s.heap.get? z.1 = some z.2 ∧ H z.1 = none ∧ z.1 ≠ X.env.locals ∧ z.1 ∉ X.fs ∧ ∀ v, z.2.data ≠ .cell v := fun z hz => by
    rcases List.mem_append.mp hz with w | w
    · exact I.pin z (List.mem_append_left _ w)
    · rcases List.mem_cons.mp w with w | w
      · rw [w]; exact ⟨e, n, n1, n2, n3⟩
      · exact I.pin z (List.mem_append_right _ w)
  { I with pin := k }
/-- the way of the tables when a lambda is made -/
structure LamStp (H H1 : Hp) (P : Addr) (q : Str) : Prop where
  ext : ExtN H H1
  dom : ∀ a, H1 a = none → H a = none
  tab : TabS H1 P q
theorem LamStp.stp {H1 : Hp} {P : Addr} {q : Str} (l : LamStp H H1 P q) : Stp ι H ι H1 :=
  ⟨⟨[], by simp⟩, fun a xs e => l.ext a _ e (fun _ z => nomatch z), fun a o u e => l.ext a _ e (fun _ z => nomatch z), fun a o _ e n => l.ext a o e n, fun _ x n => absurd x n, l.dom⟩
theorem lam_new {cA P : Addr} {x : Str} {ap pos : Pos} {b : Expr} {sc : Scope} {s : Shared} {E Q : Value → Shared → Prop} (I : L2.Inv X pins σ H s) (TB : TabB X.base X.mg cA P) (hcode : X.env.code = .ref cA) (t : TabS H P (X.env.qual ++ "<lambda>")) (nf : ∀ y ∈ sc.names, y.2 ≠ .free)
    (fin : ∀ (f cd : Addr) (pm ctv : Value) (H1 : Hp) (s1 : Shared), L2.Inv X ((f, lamOb (X.env.qual ++ "<lambda>") (lamPs x ap) b sc pm cd ctv) :: pins) σ H1 s1 → LamStp H H1 P (X.env.qual ++ "<lambda>") → H1 cd = some (CodeO cd (X.env.qual ++ "<lambda>")) → Q (.ref f) s1) :
    wpAny (model X.prog X.w) X.A (eval (.Lambda (lamPs x ap) b sc pos) X.env) Q E s := by
  obtain ⟨ps, hP, tr, am⟩ := t
  have clo : cloFrom X.env.cells sc.names [] = [] := by
    have key : ∀ l : List (Str × NameKind), (∀ y ∈ l, y.2 ≠ .free) → cloFrom X.env.cells l [] = [] := fun l => by
      induction l with
      | nil => intro _; rfl
      | cons y l ih =>
        intro hy
        have n1 := hy y List.mem_cons_self
        have := ih fun z mz => hy z (List.mem_cons_of_mem _ mz)
        obtain ⟨y1, y2⟩ := y
        cases y2 <;> first | exact absurd rfl n1 | exact this
    exact key _ nf
  have free : ∀ y ∈ sc.names, y.2 = .free → ∃ c, X.env.cells.lookup y.1 = some c := fun y hy e => absurd e (nf y hy)
  refine PySem.W.kla_eval rfl ?_
  have kb : s.heap.BuiltinsAt X.mg P := TB.bm.keeps I.bk
  have oP : s.heap.get? P = some { cls := .none, data := .fields ps } := I.hok P _ hP
  have pin : ∀ {H1 : Hp} {s1 : Shared} {f cd : Addr} {pm ctv : Value}, L2.Inv X pins σ H1 s1 → s.heap.objs.size ≤ f → s1.heap.get? f = some (lamOb (X.env.qual ++ "<lambda>") (lamPs x ap) b sc pm cd ctv) → H1 f = none → L2.Inv X ((f, lamOb (X.env.qual ++ "<lambda>") (lamPs x ap) b sc pm cd ctv) :: pins) σ H1 s1 := fun {H1 s1 f cd pm ctv} I1 hs e n =>
    MP.Inv.topin I1 e n (Nat.ne_of_gt (Nat.lt_of_lt_of_le I.lt hs)) (I.nofs hs) fun v z => nomatch z
  cases ha : codeAmong pos ps.toList with
  | none =>
    refine PySem.W.kla_makeFunction (mg := X.mg) (c := cA) (P := P) (ps := ps) (closure_ok free) I.ok.glob (I.mod.glob.keeps I.bk) hcode (TB.code.keeps I.bk) oP tr ha TB.gP kb fun cd ctv h2 tk keep hge hlt hrc tb => ?_
    obtain ⟨c2, oc, vs, t, ec, o1, o2, o3⟩ := hrc
    cases ec
    rw [clo]
    have le2 : s.heap.objs.size ≤ h2.objs.size := Nat.le_trans hge (Nat.le_of_lt hlt)
    have nC : H cd = none := I.hok.fresh hge
    have I1 := LamX.inv_table (t' := tk) (q := X.env.qual ++ "<lambda>") (more := #[rawInt pos.line, rawInt pos.col, .ref cd]) (h' := h2.push (lamOb (X.env.qual ++ "<lambda>") (lamPs x ap) b sc ((X.mg "__name__").getD .none) cd ctv)) I hP (fun b o nb e => Heap.get?_push_of_some _ (keep b o nb e)) (Heap.get?_push_of_some _ tb) hge ⟨oc, vs, t, Heap.get?_push_of_some _ o1, o2, o3⟩
    have ext : ExtN H (upd (upd H P (.tbl (ps ++ #[rawInt pos.line, rawInt pos.col, .ref cd]))) cd (CodeO cd (X.env.qual ++ "<lambda>"))) := fun b o e n => by
      rw [upd_ne (ne_of_none e nC), upd_ne fun z => n ps (by rw [z] at e; exact Option.some.inj (e.symm.trans hP))]
      exact e
    refine fin h2.objs.size cd _ ctv _ _ (pin I1 le2 (Heap.get?_push_size _ rfl) ?_) ⟨ext, fun a e => ?_, ?_⟩ upd_same
    · rw [upd_ne (Nat.ne_of_gt hlt), upd_ne (Nat.ne_of_gt (Nat.lt_of_lt_of_le (Heap.lt_size oP) le2))]
      exact I.hok.fresh le2
    · by_cases z : a = cd
      · rw [z]; exact nC
      · rw [upd_ne z] at e
        by_cases y : a = P
        · rw [y, upd_same] at e; cases e
        · rw [upd_ne y] at e; exact e
    · refine ⟨_, by rw [upd_ne (ne_of_none hP nC), upd_same], ?_, fun p2 cv hcv => ?_⟩
      · have e2 : (ps ++ #[rawInt pos.line, rawInt pos.col, .ref cd]).toList = ps.toList ++ [rawInt pos.line, rawInt pos.col, .ref cd] := by simp
        rw [e2]
        exact PySem.TriplesOk_snoc _ _ _ _ tr
      · have hcv : codeAmong p2 (ps.toList ++ [rawInt pos.line, rawInt pos.col, .ref cd]) = some cv := by simpa using hcv
        rcases LamX.among_app _ tr hcv with z | z
        · obtain ⟨c0, y1, y2⟩ := am p2 cv z
          exact ⟨c0, y1, ext _ _ y2 LamX.codeO_ne⟩
        · exact ⟨cd, z, upd_same⟩
  | some cv =>
    obtain ⟨cd, ec, oc⟩ := am pos cv ha
    subst ec
    refine PySem.W.kla_makeFunctionHit (mg := X.mg) (c := cA) (P := P) (ps := ps) (closure_ok free) I.ok.glob (I.mod.glob.keeps I.bk) hcode (TB.code.keeps I.bk) oP tr ha kb fun ctv h2 tk keep hge => ?_
    rw [clo]
    have I1 : L2.Inv X pins σ H { s with heap := h2.push (lamOb (X.env.qual ++ "<lambda>") (lamPs x ap) b sc ((X.mg "__name__").getD .none) cd ctv), toks := tk } := I.kept fun b o e => Heap.get?_push_of_some _ (keep b o e)
    exact fin h2.objs.size cd _ ctv H _ (pin I1 hge (Heap.get?_push_size _ rfl) (I.hok.fresh hge)) ⟨ExtN.refl H, fun _ e => e, ⟨ps, hP, tr, am⟩⟩ oc
end
end MP

/-! MP4m: sorted by a lambda, the sort. -/
namespace MP
open PySem PySem.Spec PyProof.Rows L2
open PySem.W (EachIs AllAlike Sortable KeepsBut dataKind)
open LamX (CodeO TabS TabB ExtN)
section
variable {X : Cx} {c : Cn} {pins : List (Addr × Obj)} {σ : L2.St} {h : Hm} {ι : List Addr} {H : Hp}
theorem key_restL {g : List D → Hm → Res D} {f : Addr} {m : Nat} (hK : X.K = c.K) (hr : Room m X.A.in1.in1) (call1 : ∀ {s0 : Shared} {H0 : Hp} {ι0 : List Addr} {x : V} {u : Value} {d k : D}, L2.Inv X pins σ H0 s0 → Stp ι H ι0 H0 → RH c ι0 H0 h → RD c ι0 H0 d x → RelV x u → g [d] h = .ok k h → codeAny (model X.prog X.w) X.A.in1.in1 (.call (.ref f) ⟨[u], []⟩) (CR (L2.CX X.prog X.w) X.stack X.prog X.w H0 s0 (fun v H2 => ∃ ι2, Stp ι0 H0 ι2 H2 ∧ RH c ι2 H2 h ∧ RD c ι2 H2 k v) (fun _ _ _ => False)) s0)
    {ds ks : List D} {ps : List PyData} {xs : List V} {us : List Value} (R : RH c ι H h) (rx : RDs c ι H ds xs) (vx : Vals xs us) (hk : mapO (keyOf g h) ds = some ks) (hp : mapO (toP h 62) ks = some ps) (hal : AllAlike ps) (hsk : Sortable ps) (hl : ds.length ≤ sizeLine)
    {p q : Addr} {e1 : Nat} {s : Shared} {P : PySem.Fin → Shared → Prop} {E : Value → Shared → Prop} (I : L2.Inv X pins σ H s) (fp : FpOk X pins H p) (fq : FpOk X pins H q) (hpq : q ≠ p) (eq : s.heap.get? q = some (seqObj "list" #[] 0)) (ep : s.heap.get? p = some (seqObj "list" #[] e1))
    (fin : ∀ (ι' : List Addr) (H' : Hp) (s' : Shared) (ys : List V), Stp ι H ι' H' → RH c ι' H' h → H' p = none → L2.Inv X pins σ (L2.upd H' p (.lst ys)) s' → RDs c ι' H' (byKey ds ps) ys → P (.done (.ret .none)) s') :
    wpAny (model X.prog X.w) X.A.in1.in1 (PyProof.Rows.ksk_rest p (.ref f) false us.toArray e1 (.ref q)) P E s := by
  have l1 : us.length = ds.length := by rw [rx.length, vx.length]
  have l2 : ks.length = ds.length := mapO_len hk
  have l3 : ps.length = ds.length := by rw [mapO_len hp, l2]
  unfold PyProof.Rows.ksk_rest
  refine wpAny_bind (wpAny_rule ?_)
  rw [List.forIn_toArray]
  refine wpAny_bind (PyProof.Rows.ksk_fold (fun j s' => KInv X c pins σ ι H h ks p q e1 j s') us 0 s ⟨ι, H, #[], 0, [], I, Stp.refl, R, fp, fq, eq, ep, by rw [List.take_zero]; exact .nil, .nil⟩ ?step ?done)
  case step =>
    intro j u s' eu K
    rw [Nat.zero_add] at K ⊢
    obtain ⟨ι', H', kA, e, vs, I', st, R', fp', fq', eq', ep', rk, vk⟩ := K
    have hj : j < us.length := (List.getElem?_eq_some_iff.mp eu).1
    obtain ⟨d, x, e2, gx, ru⟩ := (rx.mono st).item vx hj
    have eu2 : us[j] = u := by
      have := List.getElem?_eq_getElem hj
      rw [eu] at this; exact (Option.some.inj this).symm
    rw [eu2] at ru
    obtain ⟨k, ek, kk⟩ := mapO_get hk e2
    have kr := keyOf_some kk
    have hz : kA.size ≤ ds.length := by
      have h1 := vk.length
      have h2 := rk.length
      rw [List.length_take] at h2
      rw [← Array.length_toList, ← h1, ← h2]
      omega
    have e0 := I'.env0
    have en : Env0 X.prog X.w X.K X.mg X.base X.A.in1.in1 X.stack s' H' := ⟨e0.frames, e0.mod, e0.bs, e0.bsz, e0.funs, e0.frf, e0.hok, e0.bare⟩
    have nf : ∀ {b : Addr}, FpOk X pins H' b → b ∉ frs X.stack := fun f hb => by
      rcases List.mem_cons.mp (I'.stkSub _ hb) with z | z
      · exact f.2.1 z
      · exact f.2.2.1 z
    refine wpAny_bind (wpAny_attempt (wpAny_call (codeAny_mono (call1 I' st R' gx ru kr) fun r s2 hq => ?_)))
    cases r with
    | error ex =>
      obtain ⟨_, _, _, _, _, _, _, _, _, _, _, _, hE⟩ := hq
      exact hE.elim
    | ok fl =>
      cases fl with
      | next => exact False.elim hq
      | brk => exact False.elim hq
      | cont => exact False.elim hq
      | ret v =>
        obtain ⟨v', H2, os, bare, un, hok, rv, ι2, st2, R2, g2⟩ := hq
        have I2 : L2.Inv X pins σ H2 s2 := I'.call' os un hok bare (fun b y => absurd y List.not_mem_nil)
        obtain ⟨fp2, ep2⟩ := fp_after un fp' (nf fp') ep'
        obtain ⟨fq2, eq2⟩ := fp_after un fq' (nf fq') eq'
        try dsimp only
        have s1 := Heap.SameBut.update s2.heap q (Obj.mapSeq (·.push v))
        obtain ⟨c2, hc2⟩ : ∃ c2, (s2.heap.update q (Obj.mapSeq (·.push v))).get? q = some (seqObj "list" (kA.push v) c2) := ⟨_, get?_update_seq eq2 (·.push v)⟩
        have ets : ks.take (j + 1) = ks.take j ++ [k] := by rw [List.take_add_one, ek]; simp
        refine wpAny_bind (listUpdate_at eq2 rfl ?_ (Nat.le_trans hz hl) (Nat.le_trans (Nat.le_of_eq (Array.size_push ..)) (Nat.succ_le_succ (Nat.le_trans hz hl))))
        refine wpAny_pure ⟨rfl, ι2, H2, kA.push v, c2, vs ++ [v'], ?_, st.trans st2, R2, fp2, fq2, hc2, (s1.2 p hpq.symm).trans ep2, ?_, ?_⟩
        · exact I2.turned (t' := s2.toks) (fun b o hb eb => (s1.2 b hb).trans eb) fq2.1 fq2.2.1 fq2.2.2.2.1 fq2.2.2.2.2.1 fq2.2.2.2.2.2
        · rw [ets]; exact (rk.mono st2).append (.one g2)
        · rw [show (kA.push v).toList = kA.toList ++ [v] by simp]
          exact vk.append (.cons rv .nil)
  case done =>
    intro s' K
    rw [Nat.zero_add] at K
    obtain ⟨ι', H', kA, e, vs, I', st, R', fp', fq', eq', ep', rk, vk⟩ := K
    rw [List.take_of_length_le (by omega)] at rk
    obtain ⟨er, dp⟩ := keys_read hK I' R' hp rk vk
    have hsz : kA.size = us.length := by
      rw [← Array.length_toList, ← vk.length, ← rk.length, l2, l1]
    obtain ⟨g1, n1, n2⟩ := without s'.heap q
    try dsimp only
    refine wpAny_bind (listItems_at eq' rfl ?_)
    have hu : ∀ d ∈ ps, X.A.in1.in1.units + d.depth < cLine := fun d m => by
      have := dp d m
      have := hr.un
      omega
    refine PySem.W.keyH_end (κ := dataKind s'.heap ps) (h₁ := g1) (fun b o hb eb => ?_) n1 eq' ep' hpq (PySem.W.SortsAt.data (s := s') er hal hsk hu) hsz (by omega) fun h3 tk3 c3 k3 n3 => ?_
    · have hbq : b ≠ q := fun z => by rw [z, n1] at eb; cases eb
      rw [← n2 b hbq]; exact eb
    · have ko : PySem.W.KeyedOut false ((ds.zip ps).map (·.2)) us (PySem.W.sortVals (dataKind s'.heap ps) false kA.toList us) := by
        rw [zip_snd l3.symm]
        exact ⟨s'.heap, kA.toList, hal, rfl, er⟩
      have ee := PySem.W.keyedOut_each (·.2) ko (each_zip l3.symm (rx.mono st) vx)
      obtain ⟨ys, v1, r1⟩ := each_back ee
      refine fin ι' H' _ ys st R' fp'.1 (Inv.take2 I' (fun b ob hbp hbq eb => k3 b ob hbp ?_) fp' fq' ⟨?_, _, c3, v1, n3⟩) r1
      · rw [n2 b hbq]; exact eb
      · rw [← r1.length, List.length_map, List.length_mergeSort, List.length_zip, l3, Nat.min_self]; exact hl
theorem key_sortL {g : List D → Hm → Res D} {f : Addr} {m : Nat} (hK : X.K = c.K) (hr : Room m X.A.in1.in1) (call1 : ∀ {s0 : Shared} {H0 : Hp} {ι0 : List Addr} {x : V} {u : Value} {d k : D}, L2.Inv X pins σ H0 s0 → Stp ι H ι0 H0 → RH c ι0 H0 h → RD c ι0 H0 d x → RelV x u → g [d] h = .ok k h → codeAny (model X.prog X.w) X.A.in1.in1 (.call (.ref f) ⟨[u], []⟩) (CR (L2.CX X.prog X.w) X.stack X.prog X.w H0 s0 (fun v H2 => ∃ ι2, Stp ι0 H0 ι2 H2 ∧ RH c ι2 H2 h ∧ RD c ι2 H2 k v) (fun _ _ _ => False)) s0)
    {ds ks : List D} {ps : List PyData} {xs : List V} {us : List Value} (R : RH c ι H h) (rx : RDs c ι H ds xs) (vx : Vals xs us) (hk : mapO (keyOf g h) ds = some ks) (hp : mapO (toP h 62) ks = some ps) (hal : AllAlike ps) (hsk : Sortable ps) (hl : ds.length ≤ sizeLine)
    {s : Shared} {P : PySem.Fin → Shared → Prop} {E : Value → Shared → Prop} (I : L2.Inv X pins σ H s)
    (fin : ∀ (ι' : List Addr) (H' : Hp) (s' : Shared) (p : Addr) (ys : List V), Stp ι H ι' H' → RH c ι' H' h → H' p = none → L2.Inv X pins σ (L2.upd H' p (.lst ys)) s' → RDs c ι' H' (byKey ds ps) ys → P (.done (.ret (.ref p))) s') :
    wpAny (model X.prog X.w) X.A.in1 (newList us >>= fun l => holding [l] (call (.builtin "list.sort") [l] (kwKey f)) >>= fun _ => ret l) P E s := by
  have l1 : us.length = ds.length := by rw [rx.length, vx.length]
  refine wpAny_bind (wpAny_newList ?_ (by omega))
  have ho : (s.heap.push (seqObj "list" us.toArray 0)).get? s.heap.objs.size = some (seqObj "list" us.toArray 0) := Heap.get?_push_size _ rfl
  show wpAny _ _ _ _ _ { s with heap := s.heap.push (seqObj "list" us.toArray 0) }
  refine wpAny_bind (wpAny_holding ?_)
  refine PyProof.Rows.wpAny_call_entry_kw PyProof.Rows.slot_list_sort ⟨_, ho, rfl⟩ PyProof.Rows.entry_list_sort ?_ (PyProof.Rows.ksk_l1 _ _)
  rw [PyProof.Rows.ksk_t1]
  obtain ⟨e1, ho1⟩ : ∃ e1, ((s.heap.push (seqObj "list" us.toArray 0)).update s.heap.objs.size (Obj.mapSeq fun _ => (#[] : Array Value))).get? s.heap.objs.size = some (seqObj "list" #[] e1) := ⟨_, get?_update_seq ho fun _ => #[]⟩
  have sb := Heap.SameBut.update (s.heap.push (seqObj "list" us.toArray 0)) s.heap.objs.size (Obj.mapSeq fun _ => (#[] : Array Value))
  have sz : ((s.heap.push (seqObj "list" us.toArray 0)).update s.heap.objs.size (Obj.mapSeq fun _ => (#[] : Array Value))).objs.size = s.heap.objs.size + 1 := by rw [Heap.size_update, size_push']
  unfold PyProof.Rows.ksk_tree
  refine wpAny_bind (listItems_at ho rfl ?_)
  refine wpAny_bind (listUpdate_at ho rfl ?_ (by rw [List.size_toArray]; omega) (Nat.zero_le _))
  refine wpAny_bind (seqEpoch_at ho1 rfl ?_)
  refine wpAny_bind (wpAny_newTuple ?_ (by show us.length ≤ _; omega))
  refine wpAny_bind (wpAny_newList ?_ (Nat.zero_le _))
  refine wpAny_holding ?_
  generalize eg : (s.heap.push (seqObj "list" us.toArray 0)).update s.heap.objs.size (Obj.mapSeq fun _ => (#[] : Array Value)) = g1 at *
  have kk : ∀ b o, s.heap.get? b = some o → ((g1.push (seqObj "tuple" us.toArray 0)).push (seqObj "list" #[] 0)).get? b = some o := fun b o eb =>
    Heap.get?_push_of_some _ (Heap.get?_push_of_some _ ((sb.2 b (Nat.ne_of_lt (Heap.lt_size eb))).trans (Heap.get?_push_of_some _ eb)))
  have sz2 : (g1.push (seqObj "tuple" us.toArray 0)).objs.size = s.heap.objs.size + 2 := by rw [size_push', sz]
  have I3 : L2.Inv X pins σ H { s with heap := (g1.push (seqObj "tuple" us.toArray 0)).push (seqObj "list" #[] 0) } := I.kept (t' := s.toks) kk
  have zq : s.heap.objs.size ≤ (g1.push (seqObj "tuple" us.toArray 0)).objs.size := by rw [sz2]; omega
  have hne : (g1.push (seqObj "tuple" us.toArray 0)).objs.size ≠ s.heap.objs.size := by rw [sz2]; omega
  refine key_restL hK hr call1 R rx vx hk hp hal hsk hl I3 (I.fpOk (Nat.le_refl _) (I.hok.fresh (Nat.le_refl _))) (I.fpOk zq (I.hok.fresh zq)) hne (Heap.get?_push_size _ rfl) (Heap.get?_push_of_some _ (Heap.get?_push_of_some _ ho1)) fun ι' H' s' ys st R' np I' r => ⟨_, rfl, ?_⟩
  exact wpAny_pure (fin ι' H' s' _ ys st R' np I' r)
end
end MP

/-! MP4n: sorted(y, key=lambda x: x[0]). -/
namespace MP
open PySem PySem.Spec PyProof.Rows L2
open PySem.W (EachIs AllAlike Sortable KeepsBut dataKind)
open LamX (CodeO TabS TabB ExtN)
theorem bad_okL {P : Program} {w : World} {K : PySem.W.Frag} {mg : Str → Option Value} {base : Heap} {c : Cn} {j : Nat} {f : Addr} {fd : FuncData} {ps : List Str} : FnOk P w K mg base (L2.CX P w) j f fd ps (spM c (fun _ _ => .bad)) :=
  ⟨fun _ _ _ _ h => by obtain ⟨_, _, _, _, _, a⟩ := h; exact a.elim, fun _ _ _ _ _ _ _ _ _ _ _ _ _ h => by obtain ⟨_, _, _, _, _, a⟩ := h; exact a.elim⟩
theorem ixF_v {a b : RV} {h h' : Hm} {r : RV} (e : ixF a b h = .ok r h') : ∃ v, r = .v v ∧ h' = h := by
  unfold ixF at e
  repeat' split at e
  all_goals first | (cases e; done) | (cases e; exact ⟨_, rfl, rfl⟩)
theorem lam0_ok {d k : D} {h : Hm} (e : lam0 [d] h = .ok k h) : ixF (.v d) (.v (.int 0)) h = .ok (.v k) h := by
  unfold lam0 at e
  dsimp only at e
  cases q : ixF (.v d) (.v (.int 0)) h with
  | bad => rw [q] at e; cases e
  | exc x h' => rw [q] at e; cases e
  | ok r h' =>
    obtain ⟨v, rfl, rfl⟩ := ixF_v q
    rw [q] at e
    cases e
    rfl
def lamSc (x : Str) (sc : Scope) : Bool :=
  decide (sc.kind = .function) && (!sc.isCoroutine && (!sc.isGenerator && ((decide (sc.names.lookup x = some .local) || decide (sc.names.lookup x = some .cell)) && (sc.names.all fun y => !decide (y.2 = .free)))))
theorem lamSc_ok {x : Str} {sc : Scope} (h : lamSc x sc = true) : FnScope [x] [x] sc ∧ ∀ y ∈ sc.names, y.2 ≠ .free := by
  unfold lamSc at h
  simp only [Bool.and_eq_true, List.all_eq_true, decide_eq_true_eq, Bool.or_eq_true, Bool.not_eq_true', decide_eq_false_iff_not] at h
  obtain ⟨h1, h2, h3, h5, h6⟩ := h
  exact ⟨⟨h1, h2, h3, by simp, rfl, fun y my => by rw [List.mem_singleton.mp my]; exact h5, h6⟩, h6⟩
section
variable {X : Cx} {c : Cn} {N : List Str} {sc : Scope} {ac : Str → Bool} {k : Nat} {T : Tb} {G : Nat → D} {cf : Nat → List D → Hm → Res D} {W : WX}
theorem Cok.lam {pins : List (Addr × Obj)} (C : Cok X c N sc ac k T G cf W) {q x : Str} {ls : Scope} {f cd : Addr} {A : Around} {outer : List PySem.Env} {s : Shared} {H : Hp} {j : Nat} (hr : Room (j + 2) (A.deeper (envOfC q ls s.heap.objs.size f (.ref cd)))) :
    Cok (cxOf (L2.CX X.prog X.w) X.prog X.w X.K X.mg X.base [x] q ls f (.ref cd) A outer s H fun _ _ _ => False) c [x] ls (fun _ => true) (j + 2) ⟨T.names, [], T.free, false⟩ G (fun _ _ _ => .bad) (fun _ _ _ _ => False) where
  n := rfl
  nd := by simp
  s := rfl
  K := C.K
  calm := rfl
  room := hr
  fn := fun _ _ => rfl
  fns := fun i y e => by
    obtain ⟨f, fd, ps, a1, a2, a3, _⟩ := C.fns i y e
    exact ⟨f, fd, ps, a1, a2, a3, bad_okL⟩
  kfn := fun i y e => by
    obtain ⟨f, fd, ps, _, a1, a3, _, _⟩ := C.kfn i y e
    exact ⟨f, fd, ps, j, a1, a3, Room.in1 (Room.in1 hr), bad_okL⟩
  fnF := C.fnF
  fnN := C.fnN
  free := C.free
  glb := fun i y e => by cases e
  lamE := fun z => by cases z
  tk := takes_of rfl rfl rfl rfl
  pass := passes_of rfl
end
section
variable {X : Cx} {c : Cn} {N : List Str} {sc : Scope} {ac : Str → Bool} {k : Nat} {T : Tb} {G : Nat → D} {cf : Nat → List D → Hm → Res D} {W : WX}
theorem lam_call (C : Cok X c N sc ac k T G cf W) {pins : List (Addr × Obj)} {σ : L2.St} {x : Str} {ap sp p1 p2 : Pos} {j0 : Nat} {ls : Scope} {f cd : Addr} {pm ctv : Value} {ι : List Addr} {H : Hp} {h : Hm} {q : Str} (hs : lamSc x ls = true) (hv : visB ls x = true) (ho : okName x = true)
    (R : RH c ι H h) (oc : H cd = some (CodeO cd q)) (hr : ∃ j, Room (j + 3) X.A.in1.in1) {s0 : Shared} {H0 : Hp} {ι0 : List Addr} {v : V} {u : Value} {d kk : D} (I : L2.Inv X ((f, lamOb q (lamPs x ap) (.Subscript (.Name x p1) (.Constant (.int 0) j0 p2) sp) ls pm cd ctv) :: pins) σ H0 s0) (st : Stp ι H ι0 H0) (R0 : RH c ι0 H0 h) (g : RD c ι0 H0 d v) (ru : RelV v u) (e : lam0 [d] h = .ok kk h) :
    codeAny (model X.prog X.w) X.A.in1.in1 (.call (.ref f) ⟨[u], []⟩) (CR (L2.CX X.prog X.w) X.stack X.prog X.w H0 s0 (fun v2 H2 => ∃ ι2, Stp ι0 H0 ι2 H2 ∧ RH c ι2 H2 h ∧ RD c ι2 H2 kk v2) (fun _ _ _ => False)) s0 := by
  obtain ⟨j, hr⟩ := hr
  obtain ⟨S, _⟩ := lamSc_ok hs
  have e0 := I.env0
  have en : Env0 X.prog X.w X.K X.mg X.base X.A.in1.in1 X.stack s0 H0 := ⟨e0.frames, e0.mod, e0.bs, e0.bsz, e0.funs, e0.frf, e0.hok, e0.bare⟩
  have of1 := (I.pin _ (List.mem_append_right _ List.mem_cons_self)).1
  have oc1 : H0 cd = some (CodeO cd q) := st.keep cd _ (fun m => by
    obtain ⟨o, e1, _, n2⟩ := R.notX m
    rw [oc] at e1
    exact n2 _ (Option.some.inj e1).symm) oc LamX.codeO_ne
  refine lam_run of1 oc1 S hr en ru fun hr2 => ?_
  have C2 := C.lam (pins := pins) (x := x) (H := H0) (outer := X.stack) hr2
  refine ⟨_, (se_ix C2 (se_var C2 (i := 0) rfl hv ho).1 (se_con (d := .int 0) pe_int (fun _ _ => .int 0) (by intro _; rfl)).1 (by intro _ _; rfl)).1, ι0, [some d], h, ?_, R0, ?_⟩
  · refine ⟨rfl, fun i d2 e2 => ?_⟩
    cases i with
    | zero =>
      cases e2
      exact ⟨v, rfl, g⟩
    | succ i => simp at e2
  · have e3 : ((varM 0 [some d] h).bind fun x h1 => (ok1 (.int 0) h1).bind fun y h2 => ixF x y h2) = .ok (.v kk) h := by
      show ixF (.v d) (.v (.int 0)) h = _
      exact lam0_ok e
    show After c ι0 H0 ((varM 0 [some d] h).bind fun x h1 => (ok1 (.int 0) h1).bind fun y h2 => ixF x y h2) _ _ _
    rw [e3]
    exact fun ι2 H2 v2 s2 R2 w2 => ⟨ι2, s2, R2, w2⟩
theorem rw_mono {ι ι' : List Addr} {H H' : Hp} {r : RV} {v : V} (s : Stp ι H ι' H') (x : RW c ι H r v) : RW c ι' H' r v := by
  cases r with
  | v d => exact RD.mono s x
  | l xs =>
    obtain ⟨a, vs, e, h1, h2, h4⟩ := x
    refine ⟨a, vs, e, s.keep a _ h2 h1 (fun _ z => nomatch z), fun m => ?_, h4.mono s⟩
    have := s.new a m h2
    rw [h1] at this; cases this
theorem ep_unpin {pins : List (Addr × Obj)} {p : Addr × Obj} {σ : L2.St} {Q : VK} {u : Value} {s : Shared} (h : EP X (p :: pins) σ Q u s) : EP X pins σ Q u s := by
  obtain ⟨x, H', I, r, q⟩ := h
  exact ⟨x, H', Inv.unpin I, r, q⟩
theorem pe_srt0 (C : Cok X c N sc ac k T G cf W) (hl : T.lam = true) {y : Expr} {x : Str} {p p3 pos lpos ap p1 p2 sp : Pos} {j0 : Nat} {ls : Scope} {m : Env → Hm → Res RV} (h1 : ("sorted" : Str) ∈ T.free) (h2 : glB sc "sorted" = true) (hp : plainA y = true) (he : PE X y (tE c W m))
    (hs : lamSc x ls = true) (hv : visB ls x = true) (ho : okName x = true) :
    PE X (.Call (.Name "sorted" p) [y] [⟨some "key", .Lambda (lamPs x ap) (.Subscript (.Name x p1) (.Constant (.int 0) j0 p2) sp) ls lpos, p3⟩] pos) (tE c W fun env h => (m env h).bind fun r h1 => srtF lam0 r h1) := by
  obtain ⟨aC, aP, hcode, TB, hT, hq, hroom⟩ := C.lamE hl
  obtain ⟨_, nofree⟩ := lamSc_ok hs
  refine ⟨fun pins s σ H Q I q => ?_⟩
  have q2 := srt_rd (f := 0) q
  have wl : Gl X "sorted" := glB_ok C h2
  have hb : bootBuiltins ("sorted" : Str) = some (.builtin "sorted") := by decide +kernel
  refine wpAny_Call_Name_kw (ld_blt I wl (C.free _ h1) hb ?_ (by decide +kernel) (by decide +kernel))
  refine PyProof.Rows.callWith_kw (thn ((pa_lone he hp).run pos pins s σ H _ I q2) fun us s1 zz => ?_) (by rw [starEach_plain hp]; rfl) ((starEach_all (by rw [List.all_cons, hp]; rfl)).1) rfl rfl
  obtain ⟨vs, H1, I1, r1, q3⟩ := zz
  obtain ⟨v, ι1, h1', rv, rfl, _, R1, w1, a1⟩ := q3
  have R1t : ∀ P ∈ c.T, TabA H1 P := R1.tab
  have tA : TabS H1 aP (X.env.qual ++ "<lambda>") := by rw [hq]; exact R1t aP ((hT aP).mpr rfl)
  show wpAny _ _ (evalAll [(do let v ← eval (.Lambda (lamPs x ap) (.Subscript (.Name x p1) (.Constant (.int 0) j0 p2) sp) ls lpos) X.env; standAt pos; pure v)]) _ _ s1
  refine wpAny_evalAll_cons (wpAny_bind (lam_new I1 TB hcode tA nofree fun f cd pm ctv H2 s2 I2 ls2 oc => wpAny_bind (wpAny_standAt (wpAny_pure (wpAny_evalAll_nil ?_)))))
  have st : Stp ι1 H1 ι1 H2 := ls2.stp
  have R2 : RH c ι1 H2 h1' := R1.mono st (fun a ma => by
    obtain ⟨o, e1, n1, _⟩ := R1.notX ma
    rw [e1]
    exact ls2.ext a o e1 n1) fun P mP _ => by
      rw [(hT P).mp mP]
      have := ls2.tab
      rw [hq] at this
      exact this
  have w2 := rw_mono st w1
  have a2 := After.from a1 st
  show wpAny _ _ (call (.builtin "sorted") us (kwKey f)) _ _ s2
  refine wpAny_mono (Q := EP X ((f, lamOb (X.env.qual ++ "<lambda>") (lamPs x ap) (.Subscript (.Name x p1) (.Constant (.int 0) j0 p2) sp) ls pm cd ctv) :: pins) σ Q) ?_ (fun u s3 z => ep_unpin z) fun e s3 z => z
  unfold srtF at a2
  split at a2
  case h_2 => exact a2.elim
  rename_i ds e
  split at a2
  case h_2 => exact a2.elim
  rename_i ks hk
  split at a2
  case h_2 => exact a2.elim
  rename_i ps hps
  split at a2
  case isFalse => exact a2.elim
  rename_i hcd
  obtain ⟨hal, hsk, hlen⟩ := hcd
  have hl' : ds.length ≤ sizeLine := by rw [sl_eq]; exact hlen
  have hr2 : ∃ j, Room j X.A.in1.in1 := by
    obtain ⟨j, hj⟩ := hroom
    exact ⟨_, hj⟩
  obtain ⟨mr, hr2⟩ := hr2
  refine items_ok (kw := kwKey f) C.calm C.K I2 r1 R2 w2 e (fun _ => PyProof.Rows.ksk_s1 _ _) fun {s3 us1 xs1} I3 g1 v1 _ E => ?_
  refine key_sortL (g := lam0) C.K hr2 (fun I4 st4 R4 g4 ru4 e4 => lam_call C hs hv ho R2 oc hroom I4 st4 R4 g4 ru4 e4) R2 g1 v1 hk hps hal hsk hl' I3 fun ι' H' s' p ys st' R' np I' gy => ?_
  exact ⟨_, rfl, .ref p, _, I', rfl, a2 ι' (L2.upd H' p (.lst ys)) (.ref p) (st'.trans (Stp.upd np)) (R'.upd np) ⟨p, ys, rfl, upd_same, R'.notIn np, (st.trans st').dom _ np, gy.mono (Stp.upd np)⟩⟩
end
end MP

/-! MP5: own syntax held against the program's; expressions. -/
namespace MP
open PySem PySem.Spec PyProof.Rows L2
/-! ### small tests -/
def bopB (op : BOp) (o : Operator) : Bool := match op, o with
  | .add, .Add => true | .sub, .Sub => true | .mul, .Mult => true | .fdiv, .FloorDiv => true | .mod, .Mod => true | .pow, .Pow => true
  | _, _ => false
theorem bopB_ok {op : BOp} {o : Operator} (h : bopB op o = true) : o = op.op := by cases op <;> cases o <;> first | rfl | cases h
def copO (op : COp) (o : CmpOp) : Bool := match op, o with
  | .eq, .Eq => true | .ne, .NotEq => true | .lt, .Lt => true | .le, .LtE => true | .gt, .Gt => true | .ge, .GtE => true | .inn, .In => true | .notin, .NotIn => true | .is_, .Is => true | .isnt, .IsNot => true
  | _, _ => false
theorem copO_ok {op : COp} {o : CmpOp} (h : copO op o = true) : o = op.op := by cases op <;> cases o <;> first | rfl | cases h
def isB (neg : Bool) (o : CmpOp) : Bool := match neg, o with
  | false, .Is => true | true, .IsNot => true
  | _, _ => false
theorem isB_ok {neg : Bool} {o : CmpOp} (h : isB neg o = true) : o = if neg then .IsNot else .Is := by cases neg <;> cases o <;> first | rfl | cases h
def plainIxB (e : Expr) : Bool := match e with
  | .Slice .. => false
  | _ => true
theorem plainIx_ok {e : Expr} (h : plainIxB e = true) : PlainIx e := by
  intro o i
  cases e <;> first | rfl | cases h
def blkB (N : List Str) (sc scope : Scope) (own : List Nat) : Bool :=
  decide (scope.kind = .function) && (scope.names.all fun y => decide (scope.names.lookup y.1 = some y.2)) && (own.all fun i => (N[i]?).isSome) &&
    (scope.names.all fun y => !decide (y.2 = .free) || decide (sc.names.lookup y.1 = some .cell) || decide (sc.names.lookup y.1 = some .free)) &&
    (scope.names.all fun y => !(decide (y.2 = .local) || decide (y.2 = .cell)) || decide (y.1 ∈ (ownP own N).map (·.1)) || !decide (y.1 ∈ N))
theorem blkB_ok {N : List Str} {sc scope : Scope} {own : List Nat} (h : blkB N sc scope own = true) : BlkOk N sc scope (ownP own N) := by
  unfold blkB at h
  simp only [Bool.and_eq_true, List.all_eq_true, decide_eq_true_eq, Bool.or_eq_true, Bool.not_eq_true', decide_eq_false_iff_not, Bool.or_eq_false_iff] at h
  obtain ⟨⟨⟨⟨h1, h2⟩, h3⟩, h4⟩, h5⟩ := h
  refine ⟨h1, fun y hy => h2 y hy, fun p hp => ?_, fun y hy e => ?_, fun y hy e => ?_⟩
  · unfold ownP at hp
    obtain ⟨i, hi, rfl⟩ := List.mem_map.mp hp
    obtain ⟨x, hx⟩ := Option.isSome_iff_exists.mp (h3 i hi)
    show N[i]? = some ((N[i]?).getD "")
    rw [hx]; rfl
  · rcases h4 y hy with (z | z) | z
    · exact absurd e z
    · exact .inl z
    · exact .inr z
  · rcases h5 y hy with (z | z) | z
    · rcases e with e | e
      · exact absurd e z.1
      · exact absurd e z.2
    · exact .inl z
    · exact .inr z
def fwdB (T : Tb) (sc : Scope) (x : Str) : Bool := decide (x ∈ T.free) && glB sc x
theorem fwdB_ok {T : Tb} {sc : Scope} {x : Str} (h : fwdB T sc x = true) : x ∈ T.free ∧ glB sc x = true := by
  obtain ⟨h1, h2⟩ := Bool.and_eq_true_iff.mp h
  exact ⟨of_decide_eq_true h1, h2⟩
/-! ### the check -/
section
variable (N : List Str) (T : Tb)
mutual
def chkE : ME → Scope → (Str → Bool) → Expr → Bool
  | .var i, sc, _, e => match e with
    | .Name x _ => decide (N[i]? = some x) && (visB sc x && okName x)
    | _ => false
  | .glob i, sc, _, e => match e with
    | .Name x _ => decide (T.glbs[i]? = some x) && (glB sc x && okName x)
    | _ => false
  | .non, _, _, e => match e with
    | .Constant .none _ _ => true
    | _ => false
  | .bl b, _, _, e => match e with
    | .Constant (.bool b2) _ _ => decide (b = b2)
    | _ => false
  | .int i, _, _, e => match e with
    | .Constant (.int j) _ _ => decide (i = j)
    | _ => false
  | .str x, _, _, e => match e with
    | .Constant (.str y) _ _ => decide (st x = y)
    | _ => false
  | .bin op a b, sc, ac, e => match e with
    | .BinOp x o y _ => bopB op o && (chkE a sc ac x && chkE b sc ac y)
    | _ => false
  | .neg a, sc, ac, e => match e with
    | .UnaryOp .USub x _ => chkE a sc ac x
    | _ => false
  | .cmp op a b, sc, ac, e => match e with
    | .Compare x [o] [y] _ => copO op o && (!behindInMarks op.op y && (chkE a sc ac x && chkE b sc ac y))
    | _ => false
  | .chain o1 o2 a b d, sc, ac, e => match e with
    | .Compare x [p, q] [y, z] _ => (copO o1 p && copO o2 q) && (!lastMarks [o1.op, o2.op] [y, z] && (chkE a sc ac x && (chkE b sc ac y && chkE d sc ac z)))
    | _ => false
  | .isn neg a, sc, ac, e => match e with
    | .Compare x [o] [.Constant .none _ _] _ => isB neg o && chkE a sc ac x
    | _ => false
  | .and a b, sc, ac, e => match e with
    | .BoolOp .And [x, y] _ => chkE a sc ac x && chkE b sc ac y
    | .BoolOp .And (x :: y :: z :: r) pos => chkE a sc ac x && chkE b sc ac (.BoolOp .And (y :: z :: r) pos)
    | _ => false
  | .or a b, sc, ac, e => match e with
    | .BoolOp .Or [x, y] _ => chkE a sc ac x && chkE b sc ac y
    | .BoolOp .Or (x :: y :: z :: r) pos => chkE a sc ac x && chkE b sc ac (.BoolOp .Or (y :: z :: r) pos)
    | _ => false
  | .orI a b, sc, ac, e => match e with
    | .BoolOp .Or [x, y] _ => isCall x && (chkE a sc ac x && chkE b sc ac y)
    | _ => false
  | .not a, sc, ac, e => match e with
    | .UnaryOp .Not x _ => chkE a sc ac x
    | _ => false
  | .ite q a b, sc, ac, e => match e with
    | .IfExp x y z _ => chkE q sc ac x && (chkE a sc ac y && chkE b sc ac z)
    | _ => false
  | .call f as, sc, ac, e => match e with
    | .Call (.Name x _) es [] _ => decide (T.names[f]? = some x) && (glB sc x && (okName x && (es.all plainA && chkEs as sc ac es)))
    | _ => false
  | .fnv f, sc, _, e => match e with
    | .Name x _ => decide (T.names[f]? = some x) && (glB sc x && okName x)
    | _ => false
  | .callV s as, sc, ac, e => match e with
    | .Call (.Name x _) (y :: es) [] _ => decide (N[s]? = some x) && (visB sc x && (okName x && ((y :: es).all plainA && chkEs as sc ac (y :: es))))
    | _ => false
  | .blt b as, sc, ac, e => match e with
    | .Call (.Name x _) (y :: es) [] _ => decide (x = b.name) && (fwdB T sc b.name && ((y :: es).all plainA && chkEs as sc ac (y :: es)))
    | _ => false
  | .srt a f, sc, ac, e => match e with
    | .Call (.Name x _) [y] [⟨some z, .Name w _, _⟩] _ => (decide (x = "sorted") && decide (z = "key")) && (fwdB T sc "sorted" && (plainA y && (decide (T.names[f]? = some w) && (glB sc w && (okName w && chkE a sc ac y)))))
    | _ => false
  | .srt0 a, sc, ac, e => match e with
    | .Call (.Name x _) [y] [⟨some z, .Lambda ⟨[], [⟨px, none, _⟩], none, [], [], none, []⟩ (.Subscript (.Name px2 _) (.Constant (.int 0) _ _) _) ls _, _⟩] _ => (decide (x = "sorted") && (decide (z = "key") && decide (px2 = px))) && (T.lam && (fwdB T sc "sorted" && (plainA y && (lamSc px ls && (visB ls px && (okName px && chkE a sc ac y))))))
    | _ => false
  | .isin a ts, sc, ac, e => match ts, e with
    | [u], .Call (.Name x _) [y, .Name z _] [] _ => (decide (x = "isinstance") && decide (z = u.name)) && (fwdB T sc "isinstance" && (fwdB T sc u.name && (plainA y && chkE a sc ac y)))
    | _, _ => false
  | .meth m o as, sc, ac, e => match e with
    | .Call (.Attribute y nm apos) es [] pos => decide (nm = m.name) && (plainBase y && (es.all plainA && (decide (es.length < 20) && ((apos.endLine == pos.line) && (chkE o sc ac y && chkEs as sc ac es)))))
    | _ => false
  | .ix a b, sc, ac, e => match e with
    | .Subscript x y _ => plainIxB y && (chkE a sc ac x && chkE b sc ac y)
    | _ => false
  | .sl a lo hi, sc, ac, e => match e with
    | .Subscript x (.Slice l u none _) _ => chkE a sc ac x && (chkO lo sc ac l && chkO hi sc ac u)
    | _ => false
  | .slr a, sc, ac, e => match e with
    | .Subscript x (.Slice none none (some (.UnaryOp .USub (.Constant (.int j) _ _) _)) _) _ => decide (j = 1) && chkE a sc ac x
    | _ => false
  | .tup as, sc, ac, e => match e with
    | .Tuple es _ _ => decide (es.length < 1000) && chkEs as sc ac es
    | _ => false
  | .lst as, sc, ac, e => match e with
    | .List es _ => decide (es.length < 1000) && chkEs as sc ac es
    | _ => false
  | .dic _ _, _, _, e => match e with
    | .Dict [] [] _ => true
    | _ => false
  | .dic1 k v, sc, ac, e => match e with
    | .Dict [some x] [y] _ => chkE k sc ac x && chkE v sc ac y
    | _ => false
  | .dicN as, sc, ac, e => match e with
    | .Dict ks vs _ => !ks.isEmpty && (decide (ks.length ≤ 15) && chkPs as sc ac ks vs)
    | _ => false
  | .sl3 a lo hi st, sc, ac, e => match e with
    | .Subscript x (.Slice l u (some z) _) _ => chkE a sc ac x && (chkO lo sc ac l && (chkO hi sc ac u && chkO st sc ac (some z)))
    | _ => false
  | .lrev a, sc, ac, e => match e with
    | .Call (.Name x _) [.Call (.Name y _) [z] [] _] [] _ => decide (x = "list") && (decide (y = "reversed") && (fwdB T sc "list" && (fwdB T sc "reversed" && (plainA z && chkE a sc ac z))))
    | _ => false
  | .comp elt t it ifs own, sc, ac, e => match e with
    | .ListComp x [⟨tg, iter, ifl, 0⟩] scope _ => blkB N sc scope own && (t.slots.all (fun i => decide (i ∈ own)) && (chkT N (relS scope sc) (blkAc scope) t tg && (foldB iter && (chkI it sc ac tg iter && (chkTs ifs (relS scope sc) (blkAc scope) ifl && chkE elt (relS scope sc) (blkAc scope) x)))))
    | _ => false
  | .lk _ a, sc, ac, e => match e with
    | .ListComp x gens scope pos => chkE a sc ac (.ListComp x gens scope pos)
    | _ => false
def chkEs : MEs → Scope → (Str → Bool) → List Expr → Bool
  | .nil, _, _, es => match es with
    | [] => true
    | _ => false
  | .cons a r, sc, ac, es => match es with
    | e :: es => plainA e && (chkE a sc ac e && chkEs r sc ac es)
    | _ => false
/-- a display's pairs, one behind the other -/
def chkPs : MEs → Scope → (Str → Bool) → List (Option Expr) → List Expr → Bool
  | .nil, _, _, ks, vs => match ks, vs with
    | [], [] => true
    | _, _ => false
  | .cons k (.cons v r), sc, ac, ks, vs => match ks, vs with
    | some x :: ks, y :: vs => chkE k sc ac x && (chkE v sc ac y && chkPs r sc ac ks vs)
    | _, _ => false
  | _, _, _, _, _ => false
/-- a clause's tests: none or one -/
def chkTs : MEs → Scope → (Str → Bool) → List Expr → Bool
  | .nil, _, _, es => match es with
    | [] => true
    | _ => false
  | .cons a .nil, sc, ac, es => match es with
    | [e] => chkE a sc ac e
    | _ => false
  | .cons _ (.cons _ _), _, _, _ => false
def chkO : MO → Scope → (Str → Bool) → Option Expr → Bool
  | .non, _, _, o => match o with
    | none => true
    | _ => false
  | .som a, sc, ac, o => match o with
    | some e => chkE a sc ac e
    | _ => false
def chkI : MI → Scope → (Str → Bool) → Expr → Expr → Bool
  | .seq a, sc, ac, _, e => chkE a sc ac e
  | .rng as, sc, ac, _, e => match e with
    | .Call (.Name x _) [a] [] _ => decide (x = "range") && (fwdB T sc "range" && chkEs as sc ac [a])
    | .Call (.Name x _) [a, b] [] _ => decide (x = "range") && (fwdB T sc "range" && chkEs as sc ac [a, b])
    | _ => false
  | .enum a, sc, ac, tg, e => match tg, e with
    | .Tuple .., .Call (.Name x _) [y] [] _ => decide (x = "enumerate") && (fwdB T sc "enumerate" && (plainA y && chkE a sc ac y))
    | _, _ => false
  | .zip a b, sc, ac, tg, e => match tg, e with
    | .Tuple .., .Call (.Name x _) [y, z] [] _ => decide (x = "zip") && (fwdB T sc "zip" && ((plainA y && plainA z) && (chkE a sc ac y && chkE b sc ac z)))
    | _, _ => false
  | .zipT a b, sc, ac, tg, e => match tg, e with
    | .Tuple .., .Call (.Name x _) [y, z] [] _ => decide (x = "zip") && (fwdB T sc "zip" && ((plainA y && plainA z) && (chkE a sc ac y && chkE b sc ac z)))
    | _, _ => false
  | .rev a, sc, ac, _, e => match e with
    | .Call (.Name x _) [y] [] _ => decide (x = "reversed") && (fwdB T sc "reversed" && (plainA y && chkE a sc ac y))
    | _ => false
  | .items _, _, _, _, _ => false
  | .values _, _, _, _, _ => false
end
end
theorem chkEs_len {N : List Str} {T : Tb} : ∀ (as : MEs) {sc : Scope} {ac : Str → Bool} {es : List Expr}, chkEs N T as sc ac es = true → as.len = es.length ∧ es.all plainA = true
  | .nil, sc, ac, es, h => by
    unfold chkEs at h
    split at h
    · exact ⟨rfl, rfl⟩
    · cases h
  | .cons a r, sc, ac, es, h => by
    unfold chkEs at h
    split at h
    · simp only [Bool.and_eq_true] at h
      obtain ⟨h1, h2⟩ := chkEs_len r h.2.2
      refine ⟨?_, ?_⟩
      · rw [MEs.len, h1]; rfl
      · rw [List.all_cons, h.1, h2]; rfl
    · cases h
theorem evEs_len {G : Nat → D} {cf : Nat → List D → Hm → Res D} : ∀ (as : MEs) (env : Env) (h : Hm) (rs : List RV) (h' : Hm), evEs G cf as env h = .ok rs h' → rs.length = as.len
  | .nil, env, h, rs, h', e => by
    rw [evEs] at e
    cases e
    rfl
  | .cons a r, env, h, rs, h', e => by
    rw [evEs] at e
    cases q : evE G cf a env h with
    | bad => rw [q] at e; cases e
    | exc x h1 => rw [q] at e; cases e
    | ok x h1 =>
      rw [q, Res.bind_ok] at e
      cases q2 : evEs G cf r env h1 with
      | bad => rw [q2] at e; cases e
      | exc x h1 => rw [q2] at e; cases e
      | ok xs h2 =>
        rw [q2, Res.bind_ok] at e
        cases e
        rw [List.length_cons, evEs_len r env h1 xs _ q2, MEs.len]
end MP

/-! MP5b: the check is sound, expressions. -/
namespace MP
open PySem PySem.Spec PyProof.Rows L2
section
variable {c : Cn} {N : List Str} {k : Nat} {T : Tb} {G : Nat → D} {cf : Nat → List D → Hm → Res D}
theorem SX.to {X : Cx} {W : WX} {e : Expr} {m m' : Env → Hm → Res RV} (h : SX X c W e m) (q : ∀ env h, m' env h = m env h) : SX X c W e m' := by
  have : m' = m := by funext env h; exact q env h
  rw [this]; exact h
theorem SE.to {X : Cx} {W : WX} {e : Expr} {m m' : Env → Hm → Res RV} (h : SE X c W e m) (q : ∀ env h, m' env h = m env h) (n : isBO e = false := by rfl) : SX X c W e m' := SX.to (SX.of h n) q
theorem PDs.to {X : Cx} {W : WX} {pos : Pos} {ks : List (Option Expr)} {vs : List Expr} {m m' : Env → Hm → Res (List RV)} (h : PDs X c W pos ks vs m) (q : ∀ env h, m' env h = m env h) : PDs X c W pos ks vs m' := by
  rw [show m' = m from funext fun env => funext fun h => q env h]; exact h
theorem PO.to {X : Cx} {W : WX} {e : Option Expr} {m m' : Env → Hm → Res (Option Int)} (h : PO X e (tOi c W m)) (q : ∀ env h, m' env h = m env h) : PO X e (tOi c W m') := by
  have : m' = m := by funext env h; exact q env h
  rw [this]; exact h
theorem PA.to {X : Cx} {W : WX} {e : List Expr} {m m' : Env → Hm → Res (List RV)} (h : PA X e (tEs c W m)) (q : ∀ env h, m' env h = m env h) : PA X e (tEs c W m') := by
  have : m' = m := by funext env h; exact q env h
  rw [this]; exact h
theorem PTs.to {X : Cx} {W : WX} {e : List Expr} {m m' : Env → Hm → Res Bool} (h : PTs X e (tTs c W m)) (q : ∀ env h, m' env h = m env h) : PTs X e (tTs c W m') := by
  have : m' = m := by funext env h; exact q env h
  rw [this]; exact h
theorem PI.to {X : Cx} {W : WX} {tg e : Expr} {m m' : Env → Hm → Res Src} (h : PI X tg e (tI c W m)) (q : ∀ env h, m' env h = m env h) : PI X tg e (tI c W m') := by
  have : m' = m := by funext env h; exact q env h
  rw [this]; exact h
theorem sx_pe {X : Cx} {W : WX} {e : Expr} {m m' : Env → Hm → Res RV} (h : PE X e (tE c W m)) (he : ∀ whole, isTrue e X.env whole = (do let v ← whole; standAt e.pos; holding [v] (truthy v))) (q : ∀ env h, m' env h = m env h) (n : isBO e = false := by rfl) : SX X c W e m' := SE.to (se_val h he) q n
theorem len_le {n : Nat} (h : n < 1000) : n ≤ sizeLine := by rw [sl_eq]; show n ≤ 16777216; omega
mutual
theorem chkE_ok : ∀ (a : ME) {X : Cx} {sc : Scope} {ac : Str → Bool} {W : WX} {e : Expr}, Cok X c N sc ac k T G cf W → chkE N T a sc ac e = true → SX X c W e (evE G cf a)
  | .var i, X, sc, ac, W, e, C, h => by
    unfold chkE at h
    split at h
    · simp only [Bool.and_eq_true, decide_eq_true_eq] at h
      exact (se_var C h.1 h.2.1 h.2.2).to fun env h => rfl
    · cases h
  | .glob i, X, sc, ac, W, e, C, h => by
    unfold chkE at h
    split at h
    · simp only [Bool.and_eq_true, decide_eq_true_eq] at h
      exact (se_glob C h.1 h.2.1 h.2.2).to fun env h => rfl
    · cases h
  | .non, X, sc, ac, W, e, C, h => by
    unfold chkE at h
    split at h
    · exact (se_con pe_non (fun _ _ => .non) (by intro _; rfl)).to fun env h => rfl
    · cases h
  | .bl b, X, sc, ac, W, e, C, h => by
    unfold chkE at h
    split at h
    · cases of_decide_eq_true h
      exact (se_con pe_bl (fun _ _ => .bl _) (by intro _; rfl)).to fun env h => rfl
    · cases h
  | .int i, X, sc, ac, W, e, C, h => by
    unfold chkE at h
    split at h
    · cases of_decide_eq_true h
      exact (se_con pe_int (fun _ _ => .int _) (by intro _; rfl)).to fun env h => rfl
    · cases h
  | .str x, X, sc, ac, W, e, C, h => by
    unfold chkE at h
    split at h
    · rename_i y _ _
      have e1 : st x = y := of_decide_eq_true h
      subst e1
      exact (se_con pe_str (fun _ _ => .str _) (by intro _; rfl)).to fun env h => rfl
    · cases h
  | .bin op a b, X, sc, ac, W, e, C, h => by
    unfold chkE at h
    split at h
    · simp only [Bool.and_eq_true] at h
      cases bopB_ok h.1
      exact (se_bin C (chkE_ok a C h.2.1).1.1 (chkE_ok b C h.2.2).1.1).to fun env h => rfl
    · cases h
  | .neg a, X, sc, ac, W, e, C, h => by
    unfold chkE at h
    split at h
    · exact (se_neg (chkE_ok a C h).1.1).to fun env h => rfl
    · cases h
  | .cmp op a b, X, sc, ac, W, e, C, h => by
    unfold chkE at h
    split at h
    · simp only [Bool.and_eq_true, Bool.not_eq_true'] at h
      cases copO_ok h.1
      exact (se_cmp C (chkE_ok a C h.2.2.1).1.1 (chkE_ok b C h.2.2.2).1.1 h.2.1).to fun env h => rfl
    · cases h
  | .chain o1 o2 a b d, X, sc, ac, W, e, C, h => by
    unfold chkE at h
    split at h
    · simp only [Bool.and_eq_true, Bool.not_eq_true'] at h
      cases copO_ok h.1.1
      cases copO_ok h.1.2
      exact (se_chain C (chkE_ok a C h.2.2.1).1.1 (chkE_ok b C h.2.2.2.1).1.1 (chkE_ok d C h.2.2.2.2).1.1 h.2.1).to fun env h => rfl
    · cases h
  | .isn neg a, X, sc, ac, W, e, C, h => by
    unfold chkE at h
    split at h
    · simp only [Bool.and_eq_true] at h
      cases isB_ok h.1
      exact (se_isn (chkE_ok a C h.2).1.1).to fun env h => rfl
    · cases h
  | .and a b, X, sc, ac, W, e, C, h => by
    unfold chkE at h
    split at h
    · simp only [Bool.and_eq_true] at h
      exact (SX.and2 (chkE_ok a C h.1).1 (chkE_ok b C h.2).1).to fun env h => rfl
    · simp only [Bool.and_eq_true] at h
      exact (SX.and3 (chkE_ok a C h.1).1 (chkE_ok b C h.2)).to fun env h => rfl
    · cases h
  | .or a b, X, sc, ac, W, e, C, h => by
    unfold chkE at h
    split at h
    · simp only [Bool.and_eq_true] at h
      exact (SX.or2 (chkE_ok a C h.1).1 (chkE_ok b C h.2).1).to fun env h => rfl
    · simp only [Bool.and_eq_true] at h
      exact (SX.or3 (chkE_ok a C h.1).1 (chkE_ok b C h.2)).to fun env h => rfl
    · cases h
  | .orI a b, X, sc, ac, W, e, C, h => by
    unfold chkE at h
    split at h
    · simp only [Bool.and_eq_true] at h
      exact (SX.orI h.1 C.K (chkE_ok a C h.2.1).1 (chkE_ok b C h.2.2).1).to fun env h => rfl
    · cases h
  | .not a, X, sc, ac, W, e, C, h => by
    unfold chkE at h
    split at h
    · exact (SE.not (chkE_ok a C h).1).to fun env h => rfl
    · cases h
  | .ite q a b, X, sc, ac, W, e, C, h => by
    unfold chkE at h
    split at h
    · simp only [Bool.and_eq_true] at h
      exact (SX.ite (chkE_ok q C h.1).1 (chkE_ok a C h.2.1).1 (chkE_ok b C h.2.2).1).to fun env h => rfl
    · cases h
  | .fnv i, X, sc, ac, W, e, C, h => by
    unfold chkE at h
    split at h
    · simp only [Bool.and_eq_true, decide_eq_true_eq] at h
      exact (se_fnv C h.1 h.2.1 h.2.2).to fun env h => rfl
    · cases h
  | .callV s as, X, sc, ac, W, e, C, h => by
    unfold chkE at h
    split at h
    · simp only [Bool.and_eq_true, decide_eq_true_eq] at h
      exact (se_callV C h.1 h.2.1 h.2.2.1 h.2.2.2.1 (chkEs_ok as C h.2.2.2.2)).to fun env h => rfl
    · cases h
  | .call f as, X, sc, ac, W, e, C, h => by
    unfold chkE at h
    split at h
    · rename_i x p es pos
      simp only [Bool.and_eq_true, decide_eq_true_eq] at h
      obtain ⟨h1, h2, h3, h4, h5⟩ := h
      cases es with
      | nil =>
        cases as with
        | nil => exact (pe_fn0 C h1 h2 h3).to fun env h => rfl
        | cons _ _ => unfold chkEs at h5; cases h5
      | cons y es => exact (pe_fn C h1 h2 h3 h4 (chkEs_ok as C h5)).to fun env h => rfl
    · cases h
  | .blt b as, X, sc, ac, W, e, C, h => by
    unfold chkE at h
    split at h
    · simp only [Bool.and_eq_true, decide_eq_true_eq] at h
      obtain ⟨rfl, h2, h4, h5⟩ := h
      obtain ⟨g1, g2⟩ := fwdB_ok h2
      have h4 : (_ :: _ : List Expr).all plainA = true := h4
      exact (se_blt C g1 g2 h4 (chkEs_ok as C h5)).to fun env h => rfl
    · cases h
  | .srt a f, X, sc, ac, W, e, C, h => by
    unfold chkE at h
    split at h
    · simp only [Bool.and_eq_true, decide_eq_true_eq] at h
      obtain ⟨⟨rfl, rfl⟩, h1, h2, h3, h4, h5, h6⟩ := h
      obtain ⟨g1, g2⟩ := fwdB_ok h1
      exact (se_srt C g1 g2 h2 (chkE_ok a C h6).1.1 h3 h4 h5).to fun env h => rfl
    · cases h
  | .srt0 a, X, sc, ac, W, e, C, h => by
    unfold chkE at h
    split at h
    · simp only [Bool.and_eq_true, decide_eq_true_eq] at h
      obtain ⟨⟨rfl, rfl, rfl⟩, hl, h1, h2, hs, hv, ho, h6⟩ := h
      obtain ⟨g1, g2⟩ := fwdB_ok h1
      exact (se_val (pe_srt0 C hl g1 g2 h2 (chkE_ok a C h6).1.1 hs hv ho) (by intro _; rfl)).to fun env h => rfl
    · cases h
  | .isin a ts, X, sc, ac, W, e, C, h => by
    unfold chkE at h
    split at h
    · simp only [Bool.and_eq_true, decide_eq_true_eq] at h
      obtain ⟨⟨rfl, rfl⟩, h1, h2, h3, h4⟩ := h
      obtain ⟨g1, g2⟩ := fwdB_ok h1
      obtain ⟨g3, g4⟩ := fwdB_ok h2
      exact (se_isin C g1 g2 g3 g4 h3 (chkE_ok a C h4).1.1).to fun env h => rfl
    · cases h
  | .meth m o as, X, sc, ac, W, e, C, h => by
    unfold chkE at h
    split at h
    · rename_i y nm apos es pos
      simp only [Bool.and_eq_true, decide_eq_true_eq] at h
      obtain ⟨rfl, h1, h2, h3, h4, h5, h6⟩ := h
      cases es with
      | nil =>
        cases as with
        | nil => exact (se_meth0 C (chkE_ok o C h5).1.1 h1 h4).to fun env h => rfl
        | cons _ _ => unfold chkEs at h6; cases h6
      | cons z es => exact (se_meth C (chkE_ok o C h5).1.1 h1 h2 h3 h4 (chkEs_ok as C h6)).to fun env h => rfl
    · cases h
  | .ix a b, X, sc, ac, W, e, C, h => by
    unfold chkE at h
    split at h
    · simp only [Bool.and_eq_true] at h
      exact (se_ix C (chkE_ok a C h.2.1).1.1 (chkE_ok b C h.2.2).1.1 (plainIx_ok h.1)).to fun env h => rfl
    · cases h
  | .sl a lo hi, X, sc, ac, W, e, C, h => by
    unfold chkE at h
    split at h
    · simp only [Bool.and_eq_true] at h
      exact (se_sl C (chkE_ok a C h.1).1.1 (chkO_ok lo C h.2.1) (chkO_ok hi C h.2.2)).to fun env h => rfl
    · cases h
  | .slr a, X, sc, ac, W, e, C, h => by
    unfold chkE at h
    split at h
    · simp only [Bool.and_eq_true, decide_eq_true_eq] at h
      obtain ⟨rfl, h1⟩ := h
      exact (se_slr C (chkE_ok a C h1).1.1).to fun env h => rfl
    · cases h
  | .tup as, X, sc, ac, W, e, C, h => by
    unfold chkE at h
    split at h
    · simp only [Bool.and_eq_true, decide_eq_true_eq] at h
      have hl := (chkEs_len as h.2).1
      exact sx_pe (se_tup (n := as.len) (len_le (by rw [hl]; exact h.1)) (fun env h rs h' e => evEs_len as env h rs h' e) (chkEs_ok as C h.2)) (by intro _; rfl) fun env h => rfl
    · cases h
  | .lst as, X, sc, ac, W, e, C, h => by
    unfold chkE at h
    split at h
    · simp only [Bool.and_eq_true, decide_eq_true_eq] at h
      have hl := (chkEs_len as h.2).1
      exact sx_pe (se_lst (n := as.len) (len_le (by rw [hl]; exact h.1)) (fun env h rs h' e => evEs_len as env h rs h' e) (chkEs_ok as C h.2)) (by intro _; rfl) fun env h => rfl
    · cases h
  | .dic _ _, X, sc, ac, W, e, C, h => by
    unfold chkE at h
    split at h
    · exact sx_pe se_dic (by intro _; rfl) fun env h => rfl
    · cases h
  | .dic1 k v, X, sc, ac, W, e, C, h => by
    unfold chkE at h
    split at h
    · simp only [Bool.and_eq_true] at h
      exact sx_pe (se_dic1 (chkE_ok k C h.1).1.1 (chkE_ok v C h.2).1.1) (by intro _; rfl) fun env h => rfl
    · cases h
  | .comp elt t it ifs own, X, sc, ac, W, e, C, h => by
    unfold chkE at h
    split at h
    · simp only [Bool.and_eq_true, List.all_eq_true, decide_eq_true_eq] at h
      obtain ⟨h1, h2, h3, h4, h5, h6, h7⟩ := h
      exact sx_pe (se_comp C (chkI_ok it C h5) (blkB_ok h1) h2 h3 h4 (fun X' C' => chkTs_ok ifs C' h6) fun X' C' => (chkE_ok elt C' h7).1.1) (by intro _; rfl) fun env h => rfl
    · cases h
  | .dicN as, X, sc, ac, W, e, C, h => by
    unfold chkE at h
    split at h
    · rename_i ks vs pos
      simp only [Bool.and_eq_true, decide_eq_true_eq] at h
      have h0 : ks ≠ [] := by
        intro z
        subst z
        have := h.1
        simp at this
      exact sx_pe (se_dicN (chkPs_ok as (pos := pos) C h.2.2) h0 h.2.1) (by intro _; rfl) fun env h => rfl
    · cases h
  | .sl3 a lo hi st, X, sc, ac, W, e, C, h => by
    unfold chkE at h
    split at h
    · simp only [Bool.and_eq_true] at h
      exact (se_sl3 C (chkE_ok a C h.1).1.1 (chkO_ok lo C h.2.1) (chkO_ok hi C h.2.2.1) (chkO_ok st C h.2.2.2)).to fun env h => rfl
    · cases h
  | .lrev a, X, sc, ac, W, e, C, h => by
    unfold chkE at h
    split at h
    · simp only [Bool.and_eq_true, decide_eq_true_eq] at h
      obtain ⟨rfl, rfl, h1, h2, h3, h4⟩ := h
      obtain ⟨g1, g2⟩ := fwdB_ok h1
      obtain ⟨g3, g4⟩ := fwdB_ok h2
      exact (se_lrev C g1 g2 g3 g4 h3 (chkE_ok a C h4).1.1).to fun env h => rfl
    · cases h
  | .lk i a, X, sc, ac, W, e, C, h => by
    unfold chkE at h
    split at h
    · exact sx_pe (se_lk (i := i) (chkE_ok a C h).1.1) (by intro _; rfl) fun env h => by rw [evE]; rfl
    · cases h
theorem chkEs_ok : ∀ (as : MEs) {X : Cx} {sc : Scope} {ac : Str → Bool} {W : WX} {es : List Expr}, Cok X c N sc ac k T G cf W → chkEs N T as sc ac es = true → PA X es (tEs c W (evEs G cf as))
  | .nil, X, sc, ac, W, es, C, h => by
    unfold chkEs at h
    split at h
    · exact PA.to pa_mnil fun env h => rfl
    · cases h
  | .cons a r, X, sc, ac, W, es, C, h => by
    unfold chkEs at h
    split at h
    · simp only [Bool.and_eq_true] at h
      exact PA.to (pa_mcons (chkE_ok a C h.2.1).1.1 (chkEs_ok r C h.2.2) h.1) fun env h => rfl
    · cases h
theorem chkPs_ok : ∀ (as : MEs) {X : Cx} {sc : Scope} {ac : Str → Bool} {W : WX} {ks : List (Option Expr)} {vs : List Expr} {pos : Pos}, Cok X c N sc ac k T G cf W → chkPs N T as sc ac ks vs = true → PDs X c W pos ks vs (evEs G cf as)
  | .nil, X, sc, ac, W, ks, vs, pos, C, h => by
    unfold chkPs at h
    split at h
    · exact PDs.to pd_nil fun env h => rfl
    · cases h
  | .cons a .nil, X, sc, ac, W, ks, vs, pos, C, h => by
    unfold chkPs at h
    cases h
  | .cons a (.cons b r), X, sc, ac, W, ks, vs, pos, C, h => by
    unfold chkPs at h
    split at h
    · simp only [Bool.and_eq_true] at h
      exact PDs.to (pd_cons (chkE_ok a C h.1).1.1 (chkE_ok b C h.2.1).1.1 (chkPs_ok r C h.2.2)) fun env h => rfl
    · cases h
theorem chkTs_ok : ∀ (as : MEs) {X : Cx} {sc : Scope} {ac : Str → Bool} {W : WX} {es : List Expr}, Cok X c N sc ac k T G cf W → chkTs N T as sc ac es = true → PTs X es (tTs c W (evTs G cf as))
  | .nil, X, sc, ac, W, es, C, h => by
    unfold chkTs at h
    split at h
    · exact PTs.to pts_mnil fun env h => rfl
    · cases h
  | .cons a .nil, X, sc, ac, W, es, C, h => by
    unfold chkTs at h
    split at h
    · exact PTs.to (pts_mone (chkE_ok a C h).1.2) fun env h => rfl
    · cases h
  | .cons _ (.cons _ _), X, sc, ac, W, es, C, h => by
    unfold chkTs at h
    cases h
theorem chkO_ok : ∀ (a : MO) {X : Cx} {sc : Scope} {ac : Str → Bool} {W : WX} {e : Option Expr}, Cok X c N sc ac k T G cf W → chkO N T a sc ac e = true → PO X e (tOi c W (evO G cf a))
  | .non, X, sc, ac, W, e, C, h => by
    unfold chkO at h
    split at h
    · exact PO.to po_non fun env h => rfl
    · cases h
  | .som a, X, sc, ac, W, e, C, h => by
    unfold chkO at h
    split at h
    · exact PO.to (po_som (chkE_ok a C h).1.1) fun env h => rfl
    · cases h
theorem chkI_ok : ∀ (a : MI) {X : Cx} {sc : Scope} {ac : Str → Bool} {W : WX} {tg e : Expr}, Cok X c N sc ac k T G cf W → chkI N T a sc ac tg e = true → PI X tg e (tI c W (evI G cf a))
  | .seq a, X, sc, ac, W, tg, e, C, h => by
    unfold chkI at h
    exact PI.to (pi_seq C.K (chkE_ok a C h).1.1) fun env h => rfl
  | .rng as, X, sc, ac, W, tg, e, C, h => by
    unfold chkI at h
    split at h
    · simp only [Bool.and_eq_true, decide_eq_true_eq] at h
      obtain ⟨rfl, h1, h2⟩ := h
      obtain ⟨g1, g2⟩ := fwdB_ok h1
      obtain ⟨l1, l2⟩ := chkEs_len as h2
      rw [List.all_cons, Bool.and_eq_true] at l2
      exact PI.to (pi_rng1 C (fun env h rs h' e => by rw [evEs_len as env h rs h' e, l1]; rfl) g1 g2 l2.1 (chkEs_ok as C h2)) fun env h => rfl
    · simp only [Bool.and_eq_true, decide_eq_true_eq] at h
      obtain ⟨rfl, h1, h2⟩ := h
      obtain ⟨g1, g2⟩ := fwdB_ok h1
      obtain ⟨l1, l2⟩ := chkEs_len as h2
      rw [List.all_cons, Bool.and_eq_true, List.all_cons, Bool.and_eq_true] at l2
      exact PI.to (pi_rng2 C (fun env h rs h' e => by rw [evEs_len as env h rs h' e, l1]; rfl) g1 g2 l2.1 l2.2.1 (chkEs_ok as C h2)) fun env h => rfl
    · cases h
  | .enum a, X, sc, ac, W, tg, e, C, h => by
    unfold chkI at h
    split at h
    · simp only [Bool.and_eq_true, decide_eq_true_eq] at h
      obtain ⟨rfl, h1, h2, h3⟩ := h
      obtain ⟨g1, g2⟩ := fwdB_ok h1
      exact PI.to (pi_enumM C g1 g2 h2 (chkE_ok a C h3).1.1) fun env h => rfl
    · cases h
  | .zip a b, X, sc, ac, W, tg, e, C, h => by
    unfold chkI at h
    split at h
    · simp only [Bool.and_eq_true, decide_eq_true_eq] at h
      obtain ⟨rfl, h1, ⟨h2, h3⟩, h4, h5⟩ := h
      obtain ⟨g1, g2⟩ := fwdB_ok h1
      exact PI.to (pi_zipM C g1 g2 h2 h3 (chkE_ok a C h4).1.1 (chkE_ok b C h5).1.1) fun env h => rfl
    · cases h
  | .zipT a b, X, sc, ac, W, tg, e, C, h => by
    unfold chkI at h
    split at h
    · simp only [Bool.and_eq_true, decide_eq_true_eq] at h
      obtain ⟨rfl, h1, ⟨h2, h3⟩, h4, h5⟩ := h
      obtain ⟨g1, g2⟩ := fwdB_ok h1
      exact PI.to (pi_zipTM C g1 g2 h2 h3 (chkE_ok a C h4).1.1 (chkE_ok b C h5).1.1) fun env h => rfl
    · cases h
  | .rev a, X, sc, ac, W, tg, e, C, h => by
    unfold chkI at h
    split at h
    · simp only [Bool.and_eq_true, decide_eq_true_eq] at h
      obtain ⟨rfl, h1, h2, h3⟩ := h
      obtain ⟨g1, g2⟩ := fwdB_ok h1
      exact PI.to (pi_revM C g1 g2 h2 (chkE_ok a C h3).1.1) fun env h => rfl
    · cases h
  | .items _, X, sc, ac, W, tg, e, C, h => by
    unfold chkI at h
    cases h
  | .values _, X, sc, ac, W, tg, e, C, h => by
    unfold chkI at h
    cases h
end
end
end MP

/-! MP6: statements' readings. -/
namespace MP
open PySem PySem.Spec PyProof.Rows L2
/-! ### which slots a statement writes -/
mutual
def MS.as : MS → List Nat
  | .set t _ => [t]
  | .setT ts _ => ts
  | .setI _ _ _ => []
  | .aug t _ _ => [t]
  | .augI _ _ _ _ => []
  | .expr _ => []
  | .ite _ a b => a.as ++ b.as
  | .for t _ b => t.slots ++ b.as
  | .while _ b => b.as
  | .ret _ => []
  | .retN => []
  | .brk => []
  | .pass => []
  | .cont => []
  | .rse => []
  | .lks _ a => a.as
def MSs.as : MSs → List Nat
  | .nil => []
  | .cons a r => a.as ++ r.as
end
/-- the slots outside stay as they are -/
def Ag (as : List Nat) (σ σ' : L2.St) : Prop := σ'.length = σ.length ∧ ∀ i, i ∉ as → σ'[i]? = σ[i]?
theorem Ag.refl {as : List Nat} {σ : L2.St} : Ag as σ σ := ⟨rfl, fun _ _ => rfl⟩
theorem Ag.trans {as : List Nat} {σ σ1 σ2 : L2.St} (a : Ag as σ σ1) (b : Ag as σ1 σ2) : Ag as σ σ2 := ⟨b.1.trans a.1, fun i h => (b.2 i h).trans (a.2 i h)⟩
theorem Ag.set {as : List Nat} {σ : L2.St} {i : Nat} {v : Option V} (h : i ∈ as) : Ag as σ (σ.set i v) :=
  ⟨List.length_set, fun j hj => List.getElem?_set_ne fun e => hj (by rw [← e]; exact h)⟩
theorem wipe_off {σ : L2.St} {i : Nat} : ∀ {vs : List Nat}, i ∉ vs → (L2.wipe σ vs)[i]? = σ[i]?
  | [], _ => rfl
  | v :: vs, h => by
    show ((L2.wipe σ vs).set v none)[i]? = σ[i]?
    rw [List.getElem?_set_ne (fun e => h (by rw [e]; exact List.mem_cons_self)), wipe_off fun m => h (List.mem_cons_of_mem _ m)]
theorem Ag.ofWipe {as : List Nat} {σ σ' : L2.St} (h : L2.wipe σ' as = L2.wipe σ as) : Ag as σ σ' := by
  refine ⟨?_, fun i hi => ?_⟩
  · have := congrArg List.length h
    rwa [L2.wipe_length, L2.wipe_length] at this
  · rw [← wipe_off hi, h, wipe_off hi]
theorem Ag.wide {as bs : List Nat} {σ σ' : L2.St} (a : Ag as σ σ') (h : ∀ i ∈ as, i ∈ bs) : Ag bs σ σ' := ⟨a.1, fun i hi => a.2 i fun m => hi (h i m)⟩
/-! ### what comes behind a statement -/
def AfterS (c : Cn) (as : List Nat) (ι : List Addr) (H : Hp) (σ : L2.St) (r : Res Out) (D : Ends) (W : WX) : Prop := match r with
  | .ok o h' => match o with
    | .nx e => ∀ ι' H' σ', Stp ι H ι' H' → RH c ι' H' h' → RE c ι' H' e σ' → Ag as σ σ' → D.nx σ' H'
    | .bk e => ∀ ι' H' σ', Stp ι H ι' H' → RH c ι' H' h' → RE c ι' H' e σ' → Ag as σ σ' → D.bk σ' H'
    | .ct e => ∀ ι' H' σ', Stp ι H ι' H' → RH c ι' H' h' → RE c ι' H' e σ' → Ag as σ σ' → D.ct σ' H'
    | .rt d => ∀ ι' H' v, Stp ι H ι' H' → RH c ι' H' h' → RD c ι' H' d v → D.rt v H'
  | .exc x h' => ∀ ι' H' σ', Stp ι H ι' H' → RH c ι' H' h' → Ag as σ σ' → W (c.X x) none σ' H'
  | .bad => False
def tS (c : Cn) (W : WX) (as : List Nat) (m : Env → Hm → Res Out) : TS := fun D σ H => ∃ ι env h, RE c ι H env σ ∧ RH c ι H h ∧ AfterS c as ι H σ (m env h) D W
section
variable {c : Cn} {as : List Nat} {ι ι1 : List Addr} {H H1 : Hp} {σ σ1 : L2.St} {D : Ends} {W : WX}
theorem AfterS.from {r : Res Out} (a : AfterS c as ι H σ r D W) (s : Stp ι H ι1 H1) : AfterS c as ι1 H1 σ r D W := by
  cases r with
  | ok o h =>
    cases o with
    | nx e => exact fun ι' H' σ' t => a ι' H' σ' (s.trans t)
    | bk e => exact fun ι' H' σ' t => a ι' H' σ' (s.trans t)
    | ct e => exact fun ι' H' σ' t => a ι' H' σ' (s.trans t)
    | rt d => exact fun ι' H' v t => a ι' H' v (s.trans t)
  | exc x h => exact fun ι' H' σ' t => a ι' H' σ' (s.trans t)
  | bad => exact a
theorem AfterS.next {r : Res Out} (a : AfterS c as ι H σ r D W) (g : Ag as σ σ1) : AfterS c as ι H σ1 r D W := by
  cases r with
  | ok o h =>
    cases o with
    | nx e => exact fun ι' H' σ' t R x y => a ι' H' σ' t R x (g.trans y)
    | bk e => exact fun ι' H' σ' t R x y => a ι' H' σ' t R x (g.trans y)
    | ct e => exact fun ι' H' σ' t R x y => a ι' H' σ' t R x (g.trans y)
    | rt d => exact a
  | exc x h => exact fun ι' H' σ' t R y => a ι' H' σ' t R (g.trans y)
  | bad => exact a
/-- an expression ahead -/
theorem AfterS.ofE {α β : Type} {r : Res α} {f : α → Hm → Res Out} {Rel1 : List Addr → Hp → α → β → Prop} {Q1 : β → Hp → Prop} (a : AfterS c as ι H σ (r.bind f) D W)
    (k : ∀ x h1 ι1 H1 v, Stp ι H ι1 H1 → RH c ι1 H1 h1 → Rel1 ι1 H1 x v → AfterS c as ι H σ (f x h1) D W → Q1 v H1) : After c ι H r Rel1 Q1 fun e H' => W (c.X e) none σ H' := by
  cases r with
  | ok x h => exact fun ι1 H1 v s R z => k x h ι1 H1 v s R z a
  | exc x h => exact fun ι1 H1 s R => a ι1 H1 σ s R Ag.refl
  | bad => exact a
end
section
variable {X : Cx} {c : Cn} {N : List Str} {sc : Scope} {ac : Str → Bool} {k : Nat} {T : Tb} {G : Nat → D} {cf : Nat → List D → Hm → Res D} {W : WX} {as : List Nat} {pos : Pos}
theorem ps_weaken {st : Stmt} {t t' : TS} (h : PS X st t) (w : ∀ D σ H, t' D σ H → t D σ H) : PS X st t' := ⟨fun pins s σ H D I q => h.run pins s σ H D I (w D σ H q)⟩
theorem pss_weaken {st : List Stmt} {t t' : TS} (h : PSs X st t) (w : ∀ D σ H, t' D σ H → t D σ H) : PSs X st t' := ⟨fun pins s σ H D I q => h.run pins s σ H D I (w D σ H q)⟩
/-! ### names -/
def setM (m : Env → Hm → Res RV) (t : Nat) : Env → Hm → Res Out := fun env h => (m env h).bind fun r h1 => .ok (.nx (env.set t (some (r.box h1).1))) (r.box h1).2
theorem set_rd {m : Env → Hm → Res RV} {t : Nat} (ht : t ∈ as) {D : Ends} {σ : L2.St} {H : Hp} (q : tS c W as (setM m t) D σ H) : tAsg (tE c W m) (gName t) D σ H := by
  obtain ⟨ι, env, h, re, rh, a⟩ := q
  refine ⟨ι, env, h, re, rh, a.ofE fun r h1 ι1 H1 v s1 R1 w a1 => ?_⟩
  obtain ⟨ι2, e2, s2, R2, d2, _⟩ := RR.box s1 R1 w
  exact a1 ι2 H1 _ s2 R2 (((re.mono s1).ext e2).set d2 t) (Ag.set ht)
def setTF (ts : List Nat) (env : Env) (r : RV) (h1 : Hm) : Res Out := match tpOf r h1 with
  | some ds => match setSlots env ts ds with
    | some σ1 => .ok (.nx σ1) h1
    | none => .bad
  | none => .bad
theorem tpOf_ok {ι : List Addr} {H : Hp} {h : Hm} {r : RV} {x : V} {ds : List D} (R : RH c ι H h) (w : RW c ι H r x) (e : tpOf r h = some ds) : ∃ a vs, x = .ref a ∧ (SqT c.K H a vs ∨ SqL c.K H a vs) ∧ RDs c ι H ds vs := by
  unfold tpOf at e
  split at e
  · cases e
    obtain ⟨a, vs, rfl, h1, d1⟩ := rw_tup w
    exact ⟨a, vs, rfl, .inl h1, d1⟩
  · obtain ⟨a, vs, rfl, h1, d1⟩ := rw_lst R w e
    exact ⟨a, vs, rfl, .inr h1, d1⟩
theorem setT_rd {m : Env → Hm → Res RV} {ts : List Nat} (ht : ∀ t ∈ ts, t ∈ as) {D : Ends} {σ : L2.St} {H : Hp} (q : tS c W as (fun env h => (m env h).bind (setTF ts env)) D σ H) : tAsg (tE c W m) (gSeq c ts) D σ H := by
  obtain ⟨ι, env, h, re, rh, a⟩ := q
  refine ⟨ι, env, h, re, rh, a.ofE fun r h1 ι1 H1 v s1 R1 w a1 => ?_⟩
  unfold setTF at a1
  split at a1
  · rename_i ds e0
    split at a1
    · rename_i env1 e1
      obtain ⟨b, vs, rfl, hq, d1⟩ := tpOf_ok R1 w.w e0
      exact ⟨ι1, b, vs, ds, env, env1, rfl, hq, d1, re.mono s1, e1, fun σ' re' wp => a1 ι1 H1 σ' s1 R1 re' ((Ag.ofWipe (wp ts fun i hi => hi)).wide ht)⟩
    · exact a1.elim
  · exact a1.elim
/-! ### o[i] = e -/
def setIF (d : D) (env : Env) (x y : RV) (h3 : Hm) : Res Out := match setItF x y d h3 with
  | some h4 => .ok (.nx env) h4
  | none => .bad
def setIM (m mo mi : Env → Hm → Res RV) : Env → Hm → Res Out := fun env h => (m env h).bind fun r h1 => (mo env (r.box h1).2).bind fun x h2 => (mi env h2).bind fun y h3 => setIF (r.box h1).1 env x y h3
theorem setI_rd {m mo mi : Env → Hm → Res RV} {D : Ends} {σ : L2.St} {H : Hp} (q : tS c W as (setIM m mo mi) D σ H) : tAsg (tE c W m) (gSub (tE c W mo) (tE c W mi) (rSet c)) D σ H := by
  obtain ⟨ι, env, h, re, rh, a⟩ := q
  refine ⟨ι, env, h, re, rh, a.ofE fun r h1 ι1 H1 v s1 R1 w a1 => ?_⟩
  obtain ⟨ι2, e2, s2, R2, d2, _⟩ := RR.box s1 R1 w
  have re2 := (re.mono s1).ext e2
  refine ⟨ι2, env, _, re2, R2, (AfterS.from a1 s2).ofE fun x h2 ι3 H3 v3 s3 R3 w3 a3 => ⟨ι3, env, h2, re2.mono s3, R3, (AfterS.from a3 s3).ofE fun y h4 ι4 H4 v4 s4 R4 w4 a4 => ?_⟩⟩
  unfold setIF at a4
  split at a4
  · rename_i h5 e5
    exact ⟨ι4, h4, x, y, _, h5, R4, (w3.mono s4).w, w4.w, (d2.mono s3).mono s4, e5, fun ι' H' s5 R5 => a4 ι' H' σ (s4.trans s5) R5 (((re2.mono s3).mono s4).mono s5) Ag.refl⟩
  · exact a4.elim
/-! ### name op= e -/
def augF (op : BOp) (t : Nat) (env : Env) (d : D) (y : RV) (h1 : Hm) : Res Out := match d, y with
  | .int i, .v (.int j) => if op = .pow then .bad else (bopF op (.v (.int i)) (.v (.int j)) h1).bind fun r h2 => .ok (.nx (env.set t (some (r.box h2).1))) (r.box h2).2
  | _, _ => .bad
def augM (m : Env → Hm → Res RV) (op : BOp) (t : Nat) : Env → Hm → Res Out := fun env h => match env[t]? with
  | some (some d) => (m env h).bind (augF op t env d)
  | _ => .bad
theorem aug_rd {m : Env → Hm → Res RV} {op : BOp} {t : Nat} (ht : t ∈ as) {D : Ends} {σ : L2.St} {H : Hp} (q : tS c W as (augM m op t) D σ H) : tAug t (tE c W m) (rIp c op) D σ H := by
  obtain ⟨ι, env, h, re, rh, a⟩ := q
  unfold augM at a
  split at a
  · rename_i d e0
    obtain ⟨v0, g0, w0⟩ := re.2 t d e0
    refine ⟨v0, g0, ι, env, h, re, rh, a.ofE fun r h1 ι1 H1 v s1 R1 w a1 => ?_⟩
    unfold augF at a1
    split at a1
    · split at a1
      · exact a1.elim
      · rename_i i j hp
        cases w0
        cases rw_int w.w
        refine ⟨hp, ι1, h1, i, j, R1, rfl, rfl, ?_⟩
        refine res_nx (W1 := fun e H' => W (c.X e) none σ H') (bop_nx _ _ _ _) ((AfterS.from a1 s1).ofE fun r2 h2 ι2 H2 v2 s2 R2 w2 a2 => ?_)
        obtain ⟨ι3, e3, s3, R3, d3, _⟩ := RR.box s2 R2 w2
        exact a2 ι3 H2 _ s3 R3 ((((re.mono s1).mono s2).ext e3).set d3 t) (Ag.set ht)
    · exact a1.elim
  · exact a.elim
/-! ### small statements -/
theorem drop_rd {m : Env → Hm → Res RV} {D : Ends} {σ : L2.St} {H : Hp} (q : tS c W as (fun env h => (m env h).bind fun _ h1 => .ok (.nx env) h1) D σ H) : tDrop (tE c W m) D σ H := by
  obtain ⟨ι, env, h, re, rh, a⟩ := q
  exact ⟨ι, env, h, re, rh, a.ofE fun r h1 ι1 H1 v s1 R1 w a1 => a1 ι1 H1 σ s1 R1 (re.mono s1) Ag.refl⟩
theorem ret_rd {m : Env → Hm → Res RV} {D : Ends} {σ : L2.St} {H : Hp} (q : tS c W as (fun env h => (m env h).bind fun r h1 => .ok (.rt (r.box h1).1) (r.box h1).2) D σ H) : tRet (tE c W m) D σ H := by
  obtain ⟨ι, env, h, re, rh, a⟩ := q
  refine ⟨ι, env, h, re, rh, a.ofE fun r h1 ι1 H1 v s1 R1 w a1 => ?_⟩
  obtain ⟨ι2, e2, s2, R2, d2, _⟩ := RR.box s1 R1 w
  exact a1 ι2 H1 v s2 R2 d2
theorem retN_rd {D : Ends} {σ : L2.St} {H : Hp} (q : tS c W as (fun _ h => .ok (.rt .non) h) D σ H) : tRetN D σ H := by
  obtain ⟨ι, env, h, re, rh, a⟩ := q
  exact a ι H .non Stp.refl rh .non
theorem pass_rd {D : Ends} {σ : L2.St} {H : Hp} (q : tS c W as (fun env h => .ok (.nx env) h) D σ H) : tNext D σ H := by
  obtain ⟨ι, env, h, re, rh, a⟩ := q
  exact a ι H σ Stp.refl rh re Ag.refl
theorem brk_rd {D : Ends} {σ : L2.St} {H : Hp} (q : tS c W as (fun env h => .ok (.bk env) h) D σ H) : tBreak D σ H := by
  obtain ⟨ι, env, h, re, rh, a⟩ := q
  exact a ι H σ Stp.refl rh re Ag.refl
theorem cont_rd {D : Ends} {σ : L2.St} {H : Hp} (q : tS c W as (fun env h => .ok (.ct env) h) D σ H) : tCont D σ H := by
  obtain ⟨ι, env, h, re, rh, a⟩ := q
  exact a ι H σ Stp.refl rh re Ag.refl
/-! ### if -/
def ifF (a b : Hm → Res Out) (x : RV) (h1 : Hm) : Res Out := match x with
  | .v (.bl true) => a h1
  | .v (.bl false) => b h1
  | _ => .bad
theorem AfterS.notBad {c : Cn} {as : List Nat} {ι : List Addr} {H : Hp} {σ : L2.St} {D : Ends} {r : Res Out} (a : AfterS c as ι H σ r D W) : r ≠ .bad := fun e => by rw [e] at a; exact a
theorem ifF_bl {ma mb : Hm → Res Out} {x : RV} {h : Hm} (e : ifF ma mb x h ≠ .bad) : ∃ b, x = .v (.bl b) := by
  unfold ifF at e
  split at e
  · exact ⟨_, rfl⟩
  · exact ⟨_, rfl⟩
  · exact absurd rfl e
theorem if_rd {mc : Env → Hm → Res RV} {ma mb : Env → Hm → Res Out} {D : Ends} {σ : L2.St} {H : Hp} (q : tS c W as (fun env h => (mc env h).bind (ifF (ma env) (mb env))) D σ H) : tIfS (tT c W mc) (tS c W as ma) (tS c W as mb) D σ H := by
  obtain ⟨ι, env, h, re, rh, a⟩ := q
  dsimp only at a
  refine tT_of re rh ?_
  unfold tstM
  cases e : mc env h with
  | bad => rw [e] at a; exact a
  | exc x h' =>
    rw [e] at a
    exact fun ι' H' s R => a ι' H' σ s R Ag.refl
  | ok r h' =>
    rw [e, Res.bind_ok] at a
    rw [Res.bind_ok]
    obtain ⟨b, rfl⟩ := ifF_bl (AfterS.notBad a)
    intro ι1 H1 v s1 R1 w
    subst w
    cases b with
    | true => rw [if_pos rfl]; exact ⟨ι1, env, h', re.mono s1, R1, AfterS.from (r := ma env h') a s1⟩
    | false => rw [if_neg Bool.false_ne_true]; exact ⟨ι1, env, h', re.mono s1, R1, AfterS.from (r := mb env h') a s1⟩
/-! ### a dict walked -/
theorem ps_lk {st : Stmt} {m : Env → Hm → Res Out} {i : Nat} (hs : PS X st (tS c W as m)) : PS X st (tS c W as (lksM i m)) := by
  refine ⟨fun pins s σ H D I hq => ?_⟩
  obtain ⟨ι, env, h, re, rh, a⟩ := hq
  unfold lksM at a
  split at a
  · rename_i n kvs e0
    obtain ⟨e1, e2⟩ := lkAt_some e0
    obtain ⟨v0, g0, w0⟩ := re.2 i _ e1
    obtain ⟨a1, ks, _, ea, g1, g2⟩ := ro_dic rh e2 (show RW c ι H (.v (.ref n)) v0 from w0)
    refine (ps_lock hs).run pins s σ H D I ⟨a1, .dK ks, g1, trivial, fun od => ?_⟩
    obtain ⟨s1, R1⟩ := rh.lock (x := od) ea e2 g1
    refine ⟨ι, env, _, re.mono s1, R1, ?_⟩
    cases q : m env (h.set n (.fdc kvs)) with
    | bad => rw [q] at a; exact a.elim
    | exc x h1 => rw [q] at a; exact a.elim
    | ok o h1 =>
      rw [q, Res.noexc_ok, Res.bind_ok] at a
      unfold unlk at a
      split at a
      · rename_i kvs2 e3
        have frz : ∀ {ι' H'}, Stp ι (L2.upd H a1 (.frz od (.dK ks))) ι' H' → H' a1 = some (.frz od (.dK ks)) := fun s => s.frz a1 od _ upd_same
        have m1 : a1 ∈ ι := List.mem_of_getElem? ea
        cases o with
        | nx e4 => exact fun ι' H' σ' s R r g => ⟨frz s, a ι' _ σ' (s.unlock m1 g1) (R.unlock (s.get ea) e3 (frz s)) (r.per (Per.unlock (frz s))) g⟩
        | bk e4 => exact fun ι' H' σ' s R r g => ⟨frz s, a ι' _ σ' (s.unlock m1 g1) (R.unlock (s.get ea) e3 (frz s)) (r.per (Per.unlock (frz s))) g⟩
        | ct e4 => exact fun ι' H' σ' s R r g => ⟨frz s, a ι' _ σ' (s.unlock m1 g1) (R.unlock (s.get ea) e3 (frz s)) (r.per (Per.unlock (frz s))) g⟩
        | rt d => exact fun ι' H' v s R r => ⟨frz s, a ι' _ v (s.unlock m1 g1) (R.unlock (s.get ea) e3 (frz s)) (r.per (Per.unlock (frz s)))⟩
      · exact a.elim
  · exact hs.run pins s σ H D I ⟨ι, env, h, re, rh, a⟩
/-! ### one after another -/
def seqF (mr : Env → Hm → Res Out) (o : Out) (h1 : Hm) : Res Out := match o with
  | .nx σ1 => mr σ1 h1
  | o => .ok o h1
theorem seq_rd {ma mr : Env → Hm → Res Out} {D : Ends} {σ : L2.St} {H : Hp} (q : tS c W as (fun env h => (ma env h).bind (seqF mr)) D σ H) : tSeq (tS c W as ma) (tS c W as mr) D σ H := by
  obtain ⟨ι, env, h, re, rh, a⟩ := q
  refine ⟨ι, env, h, re, rh, ?_⟩
  dsimp only at a
  cases e : ma env h with
  | bad => rw [e] at a; exact a
  | exc x h' => rw [e] at a; exact a
  | ok o h' =>
    rw [e, Res.bind_ok] at a
    cases o with
    | nx e1 => exact fun ι1 H1 σ1 s1 R1 re1 g => ⟨ι1, e1, h', re1, R1, (AfterS.from (r := mr e1 h') a s1).next g⟩
    | bk e1 => exact a
    | ct e1 => exact a
    | rt d => exact a
/-! ### while -/
theorem while_rd {mc : Env → Hm → Res RV} {mb : Env → Hm → Res Out} {D : Ends} {σ : L2.St} {H : Hp} {n : Nat} (q : tS c W as (fun env h => whileL mc mb n env h) D σ H) : tWhile (tT c W mc) (tS c W as mb) D σ H := by
  obtain ⟨ι0, env0, h0, re0, rh0, a0⟩ := q
  refine ⟨fun m σ H => ∃ ι env h, RE c ι H env σ ∧ RH c ι H h ∧ AfterS c as ι H σ (whileL mc mb m env h) D W, ⟨n, ι0, env0, h0, re0, rh0, a0⟩, ?_⟩
  rintro m σ H ⟨ι, env, h, re, rh, a⟩
  cases m with
  | zero => exact a.elim
  | succ m =>
    unfold whileL at a
    refine tT_of re rh ?_
    unfold tstM
    cases e : mc env h with
    | bad => rw [e] at a; exact a
    | exc x h' =>
      rw [e] at a
      exact fun ι' H' s R => a ι' H' σ s R Ag.refl
    | ok r h' =>
      rw [e] at a
      rw [Res.bind_ok]
      have hb : ∃ b, r = .v (.bl b) := by
        cases r with
        | l xs => exact a.elim
        | v d =>
          cases d with
          | bl b => exact ⟨b, rfl⟩
          | _ => exact a.elim
      obtain ⟨b, rfl⟩ := hb
      intro ι1 H1 v s1 R1 w
      subst w
      cases b with
      | false =>
        rw [if_neg Bool.false_ne_true]
        exact a ι1 H1 σ s1 R1 (re.mono s1) Ag.refl
      | true =>
        rw [if_pos rfl]
        have a : AfterS c as ι H σ (match mb env h' with
          | .ok (.nx σ2) h2 => whileL mc mb m σ2 h2
          | .ok (.ct σ2) h2 => whileL mc mb m σ2 h2
          | .ok (.bk σ2) h2 => .ok (.nx σ2) h2
          | .ok (.rt d) h2 => .ok (.rt d) h2
          | .exc x h2 => .exc x h2
          | .bad => .bad) D W := a
        refine ⟨fun σ' H' => ∃ ι env h, RE c ι H' env σ' ∧ RH c ι H' h ∧ AfterS c as ι H' σ' (whileL mc mb m env h) D W, fun σ' H' z => ⟨m, Nat.lt_succ_self m, z⟩, ι1, env, h', re.mono s1, R1, ?_⟩
        cases e2 : mb env h' with
        | bad => rw [e2] at a; exact a
        | exc x h2 =>
          rw [e2] at a
          exact AfterS.from (r := .exc x h2) a s1
        | ok o h2 =>
          rw [e2] at a
          cases o with
          | nx e3 => exact fun ι' H' σ' s R r' g => ⟨ι', e3, h2, r', R, (AfterS.from (r := whileL mc mb m e3 h2) a (s1.trans s)).next g⟩
          | ct e3 => exact fun ι' H' σ' s R r' g => ⟨ι', e3, h2, r', R, (AfterS.from (r := whileL mc mb m e3 h2) a (s1.trans s)).next g⟩
          | bk e3 => exact fun ι' H' σ' s R r' g => (AfterS.from (r := .ok (.nx e3) h2) a s1) ι' H' σ' s R r' g
          | rt d => exact AfterS.from (r := .ok (.rt d) h2) a s1
/-! ### for -/
theorem for_rd {mI : Env → Hm → Res Src} {t : MT} {mb : Env → Hm → Res Out} (ht : ∀ i ∈ t.slots, i ∈ as) {D : Ends} {σ : L2.St} {H : Hp}
    (q : tS c W as (fun env h => (mI env h).bind fun s h1 => forL (tgF t) mb s.conds s.items env h1) D σ H) : tFor (tI c W mI) (gM c t) (tS c W as mb) D σ H := by
  obtain ⟨ι, env, h, re, rh, a⟩ := q
  refine ⟨ι, env, h, re, rh, a.ofE fun s h1 ι1 H1 J s1 R1 F a1 => ?_⟩
  refine ⟨fun i m σ H => m = s.items.length - i ∧ i ≤ s.items.length ∧ ∃ ι env h, Stp ι1 H1 ι H ∧ RE c ι H env σ ∧ RH c ι H h ∧ AfterS c as ι H σ (forL (tgF t) mb s.conds (s.items.drop i) env h) D W,
    ⟨s.items.length, rfl, Nat.zero_le _, ι1, env, h1, Stp.refl, re.mono s1, R1, AfterS.from a1 s1⟩, ?_⟩
  rintro i m σ5 H5 ⟨rfl, hi, ι5, env5, h5, s5, re5, R5, a5⟩
  by_cases hlt : i < s.items.length
  · have e0 : s.items[i]? = some s.items[i] := List.getElem?_eq_getElem hlt
    rw [List.drop_eq_getElem_cons hlt] at a5
    unfold forL at a5
    split at a5
    · rename_i hc
      obtain ⟨go, yl⟩ := F.go ι5 H5 h5 i _ s5 R5 hc e0
      refine .inr ⟨go, fun σ' H' => ∃ ι env h, Stp ι1 H1 ι H' ∧ RE c ι H' env σ' ∧ RH c ι H' h ∧ AfterS c as ι H' σ' (forL (tgF t) mb s.conds (s.items.drop (i + 1)) env h) D W, fun σ' H' z => ⟨s.items.length - (i + 1), by omega, rfl, by omega, z⟩, fun x H6 y => ?_⟩
      obtain ⟨s6, R6, g6⟩ := yl x H6 y
      cases e1 : tgF t s.items[i] env5 with
      | none => rw [e1] at a5; exact a5.elim
      | some env6 =>
        rw [e1] at a5
        refine ⟨ι5, _, env5, env6, g6, re5.mono s6, e1, fun σ6 r6 w6 => ?_⟩
        have g0 : Ag as σ5 σ6 := (Ag.ofWipe (w6 t.slots fun i hi => hi)).wide ht
        have a5 : AfterS c as ι5 H5 σ5 (match mb env6 h5 with
          | .ok (.nx σ2) h2 => forL (tgF t) mb s.conds (s.items.drop (i + 1)) σ2 h2
          | .ok (.ct σ2) h2 => forL (tgF t) mb s.conds (s.items.drop (i + 1)) σ2 h2
          | .ok (.bk σ2) h2 => .ok (.nx σ2) h2
          | .ok (.rt d) h2 => .ok (.rt d) h2
          | .exc x h2 => .exc x h2
          | .bad => .bad) D W := a5
        refine ⟨ι5, env6, h5, r6, R6, ?_⟩
        cases e2 : mb env6 h5 with
        | bad => rw [e2] at a5; exact a5
        | exc x h2 =>
          rw [e2] at a5
          exact (AfterS.from (r := .exc x h2) a5 s6).next g0
        | ok o h2 =>
          rw [e2] at a5
          cases o with
          | nx e3 => exact fun ι' H' σ' s R r' g => ⟨ι', e3, h2, (s5.trans s6).trans s, r', R, (AfterS.from (r := forL (tgF t) mb _ _ e3 h2) a5 (s6.trans s)).next (g0.trans g)⟩
          | ct e3 => exact fun ι' H' σ' s R r' g => ⟨ι', e3, h2, (s5.trans s6).trans s, r', R, (AfterS.from (r := forL (tgF t) mb _ _ e3 h2) a5 (s6.trans s)).next (g0.trans g)⟩
          | bk e3 => exact fun ι' H' σ' s R r' g => ((AfterS.from (r := .ok (.nx e3) h2) a5 s6).next g0) ι' H' σ' s R r' g
          | rt d => exact AfterS.from (r := .ok (.rt d) h2) a5 s6
    · exact a5.elim
  · have hi' : i = s.items.length := by omega
    subst hi'
    rw [List.drop_length] at a5
    unfold forL at a5
    split at a5
    · rename_i hc
      exact .inl ⟨F.stop ι5 H5 h5 _ s5 R5 hc (Nat.le_refl _), a5 ι5 H5 σ5 Stp.refl R5 re5 Ag.refl⟩
    · exact a5.elim
end
end MP

/-! MP7p: a, b = x, y. -/
namespace MP
open PySem PySem.Spec PyProof.Rows L2
def notStar (e : Expr) : Bool := match e with
  | .Starred .. => false
  | _ => true
def parB (N : List Str) (sc : Scope) (i j : Nat) (es : List Expr) (v : Expr) : Bool := match es, v with
  | [.Name x px, .Name y py], .Tuple [a, b] _ _ => decide (N[i]? = some x) && (decide (N[j]? = some y) && (decide (i ≠ j) && (decide (x ≠ y) && (decide (sc.names.lookup x = some .local) && (decide (sc.names.lookup y = some .local) && (decide (px.line = py.line) && (notStar a && (notStar b && (!(foldedForSure 8 a && foldedForSure 8 b) && !(constantsAlone 8 a && constantsAlone 8 b))))))))))
  | _, _ => false
theorem swapped_par {env : PySem.Env} {x y : Str} {px py pt pt2 : Pos} {a b : Expr} {kt k2} (hb : env.scope.kind = .function) (hxy : x ≠ y) (hx : env.scope.names.lookup x = some .local) (hy : env.scope.names.lookup y = some .local) (hl : px.line = py.line) (na : notStar a = true) (nb : notStar b = true)
    (f : (foldedForSure 8 a && foldedForSure 8 b) = false) (g : (constantsAlone 8 a && constantsAlone 8 b) = false) : swappedStores [.Tuple [.Name x px, .Name y py] kt pt] (.Tuple [a, b] k2 pt2) env = pure (some [x, y]) := by
  have hbk : env.blockKind = .function := by unfold PySem.Env.blockKind; rw [hb]; rfl
  have kx : env.kindOf x = some .local := hx
  have ky : env.kindOf y = some .local := hy
  unfold swappedStores
  have hlx : (px.line == px.line) = true := beq_self_eq_true _
  have hly : (py.line == px.line) = true := by rw [hl]; exact beq_self_eq_true _
  have hpx : (Expr.Name x px).pos = px := rfl
  simp only [List.length_cons, List.length_nil, hbk, List.head?_cons, Option.map_some, Option.getD_some, List.filterMap_cons, List.filterMap_nil, kx, ky, hpx]
  simp only [hlx, hly, beq_self_eq_true, Bool.and_self, if_true]
  have ed : [x, y].eraseDups = [x, y] := by
    have : (y == x) = false := beq_eq_false_iff_ne.mpr (Ne.symm hxy)
    simp [List.eraseDups_cons, this]
  have fa : [a, b].all (foldedForSure 8) = false := by simpa using f
  have ga : [a, b].all (constantsAlone 8) = false := by simpa using g
  refine (if_neg (by decide)).trans ?_
  refine (if_neg ?_).trans ?_
  · simp only [List.any_cons, List.any_nil]
    cases a <;> first | (cases na; done) | (cases b <;> first | (cases nb; done) | simp)
  refine (if_neg (by rw [ed]; simp)).trans ?_
  refine (if_neg (by rw [fa]; decide)).trans ?_
  exact if_neg (by rw [ga]; decide)
section
variable {X : Cx} {c : Cn} {N : List Str} {sc : Scope} {ac : Str → Bool} {k : Nat} {T : Tb} {G : Nat → D} {cf : Nat → List D → Hm → Res D} {W : WX} {as : List Nat} {pos : Pos}
def parM (ms : Env → Hm → Res (List RV)) (ts : List Nat) : Env → Hm → Res Out := fun env h => ((ms env h).bind fun rs h1 => ok1 (.tup (boxAll rs h1).1) (boxAll rs h1).2).bind (setTF ts env)
theorem par_rd {ms : Env → Hm → Res (List RV)} {i j : Nat} (hi : i ∈ as) (hj : j ∈ as) {D : Ends} {σ : L2.St} {H : Hp} (q : tS c W as (parM ms [i, j]) D σ H) : tPar i j (tEs c W ms) D σ H := by
  obtain ⟨ι, env, h, re, rh, a⟩ := q
  refine ⟨ι, env, h, re, rh, ?_⟩
  unfold parM at a
  cases e : ms env h with
  | bad => rw [e] at a; exact a
  | exc x h' => rw [e] at a; exact fun ι1 H1 s R => a ι1 H1 σ s R Ag.refl
  | ok rs h' =>
    rw [e, Res.bind_ok] at a
    have a : AfterS c as ι H σ (setTF [i, j] env (.v (.tup (boxAll rs h').1)) (boxAll rs h').2) D W := a
    intro ι1 H1 vs s1 R1 ws
    obtain ⟨ι3, e3, s3, R3, d3⟩ := RRs.box (h := h') s1 R1 ws
    unfold setTF at a
    have et : tpOf (.v (.tup (boxAll rs h').1)) (boxAll rs h').2 = some (boxAll rs h').1 := rfl
    rw [et] at a
    dsimp only at a
    generalize (boxAll rs h').1 = ds at a d3
    cases d3 with
    | nil => exact a.elim
    | cons g1 d4 =>
      cases d4 with
      | nil => exact a.elim
      | cons g2 d5 =>
        cases d5 with
        | nil =>
          refine ⟨_, _, rfl, ?_⟩
          exact a ι3 H1 _ s3 R3 (((re.mono s3).set g1 i).set g2 j) ((Ag.set hi).trans (Ag.set hj))
        | cons _ _ => exact a.elim
end
end MP

/-! MP7: statements held against the program's. -/
namespace MP
open PySem PySem.Spec PyProof.Rows L2
def swT (sc : Scope) (y : Str) (p : Pos) (v : Expr) : Bool := match v with
  | .ListComp _ _ scope vp => sc.names.lookup y == some .local && p.line == vp.line && !(scope.names.any fun (n, k) => n == y && (k == .local || k == .cell))
  | _ => false
def okSw (v : Expr) : Bool := match v with
  | .SetComp .. => false
  | .DictComp .. => false
  | _ => true
def notLk : ME → Bool
  | .lk _ _ => false
  | _ => true
def noComp (v : Expr) : Bool := match v with
  | .ListComp .. => false
  | .SetComp .. => false
  | .DictComp .. => false
  | _ => true
def notTup (v : Expr) : Bool := match v with
  | .Tuple .. => false
  | _ => true
theorem swaps_name {env : PySem.Env} {sc : Scope} {y : Str} {p : Pos} {v : Expr} {l : Nat} (hs : env.scope = sc) (hk : sc.kind = .function) (h : okSw v = true) : swapsWith v (some (.Name y p)) l env = pure (swT sc y p v) := by
  subst hs
  have hb : env.blockKind = .function := by unfold PySem.Env.blockKind; rw [hk]; rfl
  cases v <;> first
    | rfl
    | (cases h; done)
    | (rename_i e g s vp
       show (pure (env.blockKind == .function && env.kindOf y == some .local && p.line == vp.line && !(s.names.any fun (n, k) => n == y && (k == .local || k == .cell))) : Sem Bool) = _
       rw [hb]
       rfl)
def parC (N : List Str) (T : Tb) (sc : Scope) (ac : Str → Bool) (ts : List Nat) (e : ME) (es : List Expr) (v : Expr) : Bool := match ts, e with
  | [i, j], .tup as => parB N sc i j es v && (match v with
    | .Tuple vs _ _ => chkEs N T as sc ac vs
    | _ => false)
  | _, _ => false
section
variable (N : List Str) (T : Tb) (sc : Scope) (ac : Str → Bool)
mutual
def chkS : MS → Stmt → Bool
  | .set t e, s => match s with
    | .Assign [.Name y p] v _ => chkNm N sc ac t (.Name y p) && (okSw v && (notLk e && chkE N T e sc ac v))
    | _ => false
  | .setT ts e, s => match s with
    | .Assign [.Tuple es _ _] v _ => (chkNms N sc ac ts es && (notTup v && chkE N T e sc ac v)) || parC N T sc ac ts e es v
    | _ => false
  | .setI o i e, s => match s with
    | .Assign [.Subscript x y _] v _ => plainIxB y && (chkE N T o sc ac x && (chkE N T i sc ac y && chkE N T e sc ac v))
    | _ => false
  | .aug t op e, s => match s with
    | .AugAssign (.Name y p) o v _ => bopB op o && (chkNm N sc ac t (.Name y p) && chkE N T e sc ac v)
    | _ => false
  | .augI _ _ _ _, _ => false
  | .expr e, s => match s with
    | .Expr v _ => noComp v && chkE N T e sc ac v
    | _ => false
  | .ite q a b, s => match s with
    | .If x y z _ => chkE N T q sc ac x && (chkSs a y && chkSs b z)
    | _ => false
  | .for t it b, s => match s with
    | .For tg iter body [] _ => chkT N sc ac t tg && (foldB iter && (chkI N T it sc ac tg iter && chkSs b body))
    | _ => false
  | .while q b, s => match s with
    | .While x body [] _ => chkE N T q sc ac x && chkSs b body
    | _ => false
  | .ret e, s => match s with
    | .Return (some v) _ => chkE N T e sc ac v
    | _ => false
  | .retN, s => match s with
    | .Return none _ => true
    | _ => false
  | .brk, s => match s with
    | .Break _ => true
    | _ => false
  | .pass, s => match s with
    | .Pass _ => true
    | _ => false
  | .cont, s => match s with
    | .Continue _ => true
    | _ => false
  | .rse, _ => true
  | .lks _ a, s => chkS a s
def chkSs : MSs → List Stmt → Bool
  | .nil, s => match s with
    | [] => true
    | _ => false
  | .cons a r, s => match s with
    | x :: xs => chkS a x && chkSs r xs
    | _ => false
end
end
section
variable {c : Cn} {N : List Str} {k : Nat} {T : Tb} {G : Nat → D} {cf : Nat → List D → Hm → Res D} {sc : Scope} {ac : Str → Bool}
theorem chkE_comp {e : ME} {x : Expr} {gens : List Comprehension} {scope : Scope} {vp : Pos} (hl : notLk e = true) (h : chkE N T e sc ac (.ListComp x gens scope vp) = true) :
    ∃ elt t it ifs own tg iter ifl, e = .comp elt t it ifs own ∧ gens = [⟨tg, iter, ifl, 0⟩] ∧ blkB N sc scope own = true ∧ (∀ i ∈ t.slots, i ∈ own) ∧ chkT N (relS scope sc) (blkAc scope) t tg = true ∧ foldB iter = true ∧ chkI N T it sc ac tg iter = true ∧ chkTs N T ifs (relS scope sc) (blkAc scope) ifl = true ∧ chkE N T elt (relS scope sc) (blkAc scope) x = true := by
  cases e with
  | comp elt t it ifs own =>
    unfold chkE at h
    split at h
    · rename_i e
      cases e
      simp only [Bool.and_eq_true, List.all_eq_true, decide_eq_true_eq] at h
      obtain ⟨h1, h2, h3, h4, h5, h6, h7⟩ := h
      exact ⟨_, _, _, _, _, _, _, _, rfl, rfl, h1, h2, h3, h4, h5, h6, h7⟩
    · cases h
  | isin a ts =>
    rcases ts with _ | ⟨u, _ | ⟨_, _⟩⟩ <;> exact nomatch (show false = true from h)
  | lk i a => cases hl
  | _ => exact nomatch (show false = true from h)
theorem PS.to {X : Cx} {W : WX} {as : List Nat} {s : Stmt} {m m' : Env → Hm → Res Out} (h : PS X s (tS c W as m)) (q : ∀ env h, m' env h = m env h) : PS X s (tS c W as m') := by
  have : m' = m := by funext env h; exact q env h
  rw [this]; exact h
theorem PSs.to {X : Cx} {W : WX} {as : List Nat} {s : List Stmt} {m m' : Env → Hm → Res Out} (h : PSs X s (tS c W as m)) (q : ∀ env h, m' env h = m env h) : PSs X s (tS c W as m') := by
  have : m' = m := by funext env h; exact q env h
  rw [this]; exact h
theorem chkNm_inv {i : Nat} {y : Str} {p : Pos} (h : chkNm N sc ac i (.Name y p) = true) : N[i]? = some y ∧ locB sc ac y = true := by
  obtain ⟨h1, h2⟩ := Bool.and_eq_true_iff.mp (show (decide (N[i]? = some y) && locB sc ac y) = true from h)
  exact ⟨of_decide_eq_true h1, h2⟩
theorem set_ok' {X : Cx} {W : WX} {as : List Nat} (hk : sc.kind = .function) (C : Cok X c N sc ac k T G cf W) {t : Nat} {y : Str} {p pos : Pos} {e : ME} {v : Expr} (ht : t ∈ as) (h1 : chkNm N sc ac t (.Name y p) = true) (h2 : okSw v = true) (hl : notLk e = true) (h3 : chkE N T e sc ac v = true) :
    PS X (.Assign [.Name y p] v pos) (tS c W as (setM (evE G cf e) t)) := by
  obtain ⟨g1, g2⟩ := chkNm_inv h1
  obtain ⟨l1, l2⟩ := locB_ok C g2
  have hN : X.N.Nodup := by rw [C.n]; exact C.nd
  have hi : X.N[t]? = some y := by rw [C.n]; exact g1
  have sw := swaps_name (l := pos.line) (y := y) (p := p) C.s hk h2
  cases q : swT sc y p v with
  | false =>
    rw [q] at sw
    exact ps_weaken (ps_set hN hi l1 (chkE_ok e C h3).1.1 sw l2) fun D σ H q => set_rd ht q
  | true =>
    rw [q] at sw
    cases v with
    | ListComp x gens scope vp =>
      obtain ⟨elt, tt, it, ifs, own, tg, iter, ifl, rfl, rfl, a1, a2, a3, a4, a5, a6, a7⟩ := chkE_comp hl h3
      have ql : sc.names.lookup y = some .local := by
        have q : (sc.names.lookup y == some .local && p.line == vp.line && !(scope.names.any fun (n, k) => n == y && (k == .local || k == .cell))) = true := q
        simp only [Bool.and_eq_true] at q
        exact eq_of_beq q.1.1
      have ok' : BlkOk X.N X.env.scope scope (ownP own N) := by rw [C.n, C.s]; exact blkB_ok a1
      refine ps_weaken (ps_setLc C.calm hN hi (by rw [C.s]; exact ql) sw (chkI_ok it C a5) ok' (fun s H Cc cl fp => pg_ok (C.blk scope s H Cc cl fp) a3) (fun s H Cc cl fp => chkTs_ok ifs (C.blk scope s H Cc cl fp) a6) (fun s H Cc cl fp => (chkE_ok elt (C.blk scope s H Cc cl fp) a7).1.1) (fold_ok a4 _)) fun D σ H q => ?_
      have z := set_rd ht q
      have z2 : tE c W (compM (evI G cf it) tt own (evTs G cf ifs) (evE G cf elt)) σ H (fun x H1 => gName t x σ H1 D.nx) := z
      have z3 := comp_rd a2 z2
      rw [← ownP_snd own N] at z3
      exact z3
    | _ => cases q
theorem par_ok' {X : Cx} {W : WX} {as ts : List Nat} {e : ME} {es : List Expr} {v : Expr} {k0 : Nat} {p0 pos : Pos} (ha : ∀ t ∈ ts, t ∈ as) (hk : sc.kind = .function) (C : Cok X c N sc ac k T G cf W) (h : parC N T sc ac ts e es v = true) : PS X (.Assign [.Tuple es k0 p0] v pos) (tS c W as (evS G cf (.setT ts e))) := by
  unfold parC at h
  split at h
  · rename_i i j as2
    rw [Bool.and_eq_true] at h
    obtain ⟨h1, h2⟩ := h
    unfold parB at h1
    split at h1
    · rename_i x px y py a b k2 p2
      simp only [Bool.and_eq_true, decide_eq_true_eq, Bool.not_eq_true'] at h1
      obtain ⟨hi, hj, hij, hxy, lx, ly, hl, na, nb, f, g⟩ := h1
      have eS : X.env.scope = sc := C.s
      have hc := chkEs_ok as2 C h2
      refine PS.to (ps_weaken (ps_par C.calm (by rw [C.n]; exact C.nd) (by rw [C.n]; exact hi) (by rw [C.n]; exact hj) hij (by rw [eS]; exact lx) (by rw [eS]; exact ly) hc (swapped_par (by rw [eS]; exact hk) hxy (by rw [eS]; exact lx) (by rw [eS]; exact ly) hl na nb f g)) fun D σ H q => par_rd (ha i (by simp)) (ha j (by simp)) q) fun env h => rfl
    · cases h1
  · cases h
mutual
theorem chkS_ok : ∀ (s : MS) {X : Cx} {W : WX} {as : List Nat} {st : Stmt}, (∀ i ∈ s.as, i ∈ as) → sc.kind = .function → Cok X c N sc ac k T G cf W → chkS N T sc ac s st = true → PS X st (tS c W as (evS G cf s))
  | .set t e, X, W, as, st, ha, hk, C, h => by
    unfold chkS at h
    split at h
    · simp only [Bool.and_eq_true] at h
      exact PS.to (set_ok' hk C (ha t (by rw [MS.as]; exact List.mem_singleton.mpr rfl)) h.1 h.2.1 h.2.2.1 h.2.2.2) fun env h => rfl
    · cases h
  | .setT ts e, X, W, as, st, ha, hk, C, h => by
    unfold chkS at h
    split at h
    · rename_i es k0 p0 v pos
      rw [Bool.or_eq_true] at h
      rcases h with h | h
      case inr => exact par_ok' (fun t m => ha t (by rw [MS.as]; exact m)) hk C h
      simp only [Bool.and_eq_true] at h
      obtain ⟨h1, h2, h3⟩ := h
      have hs : swapsWithSole [.Tuple es k0 p0] v pos.line X.env = pure false := by cases v <;> rfl
      have hw : swappedStores [.Tuple es k0 p0] v X.env = pure none := by cases v <;> first | rfl | cases h2
      refine PS.to (ps_weaken (ps_asg (chkE_ok e C h3).1.1 (pg_seq C h1) hs hw) fun D σ H q => setT_rd (fun t m => ha t (by rw [MS.as]; exact m)) q) fun env h => rfl
    · cases h
  | .setI o i e, X, W, as, st, ha, hk, C, h => by
    unfold chkS at h
    split at h
    · rename_i x y p v pos
      simp only [Bool.and_eq_true] at h
      obtain ⟨h1, h2, h3, h4⟩ := h
      have hs : swapsWithSole [.Subscript x y p] v pos.line X.env = pure false := by cases v <;> rfl
      have hw : swappedStores [.Subscript x y p] v X.env = pure none := by cases v <;> rfl
      refine PS.to (ps_weaken (ps_asg (chkE_ok e C h4).1.1 (pg_sub (chkE_ok o C h2).1.1 (chkE_ok i C h3).1.1 (set_ok C.K C.hu) (ha := fun v => by cases y <;> first | rfl | cases h1)) hs hw) fun D σ H q => setI_rd q) fun env h => rfl
    · cases h
  | .aug t op e, X, W, as, st, ha, hk, C, h => by
    unfold chkS at h
    split at h
    · simp only [Bool.and_eq_true] at h
      obtain ⟨h1, h2, h3⟩ := h
      obtain ⟨g1, g2⟩ := chkNm_inv h2
      obtain ⟨l1, l2⟩ := locB_ok C g2
      cases bopB_ok h1
      refine PS.to (ps_weaken (ps_aug (by rw [C.n]; exact C.nd) (by rw [C.n]; exact g1) l1 (chkE_ok e C h3).1.1 (ip_ok op) l2) fun D σ H q => aug_rd (ha t (by rw [MS.as]; exact List.mem_singleton.mpr rfl)) q) fun env h => ?_
      rw [evS]
      unfold augM
      cases env[t]? with
      | none => rfl
      | some o =>
        cases o with
        | none => rfl
        | some d => rfl
    · cases h
  | .augI _ _ _ _, X, W, as, st, ha, hk, C, h => by
    unfold chkS at h
    cases h
  | .expr e, X, W, as, st, ha, hk, C, h => by
    unfold chkS at h
    split at h
    · rename_i v pos
      simp only [Bool.and_eq_true] at h
      refine PS.to (ps_weaken (ps_expr (chkE_ok e C h.2).1.1 (by cases v <;> first | rfl | cases h.1)) fun D σ H q => drop_rd q) fun env h => rfl
    · cases h
  | .ite q a b, X, W, as, st, ha, hk, C, h => by
    unfold chkS at h
    split at h
    · simp only [Bool.and_eq_true] at h
      refine PS.to (ps_weaken (ps_if (chkE_ok q C h.1).1.2 (chkSs_ok a (as := as) (fun i m => ha i (by rw [MS.as]; exact List.mem_append_left _ m)) hk C h.2.1) (chkSs_ok b (as := as) (fun i m => ha i (by rw [MS.as]; exact List.mem_append_right _ m)) hk C h.2.2)) fun D σ H q => if_rd q) fun env h => rfl
    · cases h
  | .for t it b, X, W, as, st, ha, hk, C, h => by
    unfold chkS at h
    split at h
    · simp only [Bool.and_eq_true] at h
      refine PS.to (ps_weaken (ps_for C.pass C.calm (chkI_ok it C h.2.2.1) (pg_ok C h.1) (chkSs_ok b (as := as) (fun i m => ha i (by rw [MS.as]; exact List.mem_append_right _ m)) hk C h.2.2.2) (fold_ok h.2.1 _)) fun D σ H q => for_rd (fun i m => ha i (by rw [MS.as]; exact List.mem_append_left _ m)) q) fun env h => rfl
    · cases h
  | .while q b, X, W, as, st, ha, hk, C, h => by
    unfold chkS at h
    split at h
    · simp only [Bool.and_eq_true] at h
      refine PS.to (ps_weaken (ps_while C.pass (chkE_ok q C h.1).1.2 (chkSs_ok b (as := as) (fun i m => ha i (by rw [MS.as]; exact m)) hk C h.2)) fun D σ H q => while_rd (n := FUEL) q) fun env h => rfl
    · cases h
  | .ret e, X, W, as, st, ha, hk, C, h => by
    unfold chkS at h
    split at h
    · exact PS.to (ps_weaken (ps_ret (chkE_ok e C h).1.1) fun D σ H q => ret_rd q) fun env h => rfl
    · cases h
  | .retN, X, W, as, st, ha, hk, C, h => by
    unfold chkS at h
    split at h
    · exact PS.to (ps_weaken ps_retN fun D σ H q => retN_rd q) fun env h => rfl
    · cases h
  | .brk, X, W, as, st, ha, hk, C, h => by
    unfold chkS at h
    split at h
    · exact PS.to (ps_weaken ps_break fun D σ H q => brk_rd q) fun env h => rfl
    · cases h
  | .pass, X, W, as, st, ha, hk, C, h => by
    unfold chkS at h
    split at h
    · exact PS.to (ps_weaken ps_pass fun D σ H q => pass_rd q) fun env h => rfl
    · cases h
  | .cont, X, W, as, st, ha, hk, C, h => by
    unfold chkS at h
    split at h
    · exact PS.to (ps_weaken ps_continue fun D σ H q => cont_rd q) fun env h => rfl
    · cases h
  | .rse, X, W, as, st, ha, hk, C, h => ⟨fun pins s σ H D I q => by
      obtain ⟨ι, env, hh, re, rh, a⟩ := q
      rw [evS] at a
      exact a.elim⟩
  | .lks i a, X, W, as, st, ha, hk, C, h => by
    unfold chkS at h
    exact PS.to (ps_lk (i := i) (chkS_ok a (fun j m => ha j (by rw [MS.as]; exact m)) hk C h)) fun env h => by rw [evS]; rfl
theorem chkSs_ok : ∀ (s : MSs) {X : Cx} {W : WX} {as : List Nat} {st : List Stmt}, (∀ i ∈ s.as, i ∈ as) → sc.kind = .function → Cok X c N sc ac k T G cf W → chkSs N T sc ac s st = true → PSs X st (tS c W as (evSs G cf s))
  | .nil, X, W, as, st, ha, hk, C, h => by
    unfold chkSs at h
    split at h
    · exact PSs.to (pss_weaken pss_nil fun D σ H q => pass_rd q) fun env h => rfl
    · cases h
  | .cons a r, X, W, as, st, ha, hk, C, h => by
    unfold chkSs at h
    split at h
    · simp only [Bool.and_eq_true] at h
      refine PSs.to (pss_weaken (pss_cons (chkS_ok a (as := as) (fun i m => ha i (by rw [MSs.as]; exact List.mem_append_left _ m)) hk C h.1) (chkSs_ok r (as := as) (fun i m => ha i (by rw [MSs.as]; exact List.mem_append_right _ m)) hk C h.2)) fun D σ H q => seq_rd q) fun env h => rfl
    · cases h
end
end
end MP

/-! MP8: calls; a whole program. -/
namespace MP
open PySem PySem.Spec PyProof.Rows L2
/-! ### what is left behind a call -/
section
variable {c : Cn} {ι ι' : List Addr} {H H' : Hp}
mutual
theorem RD.cl : ∀ {d : D} {v : V}, RD c ι H d v → d.cl ι.length = true
  | _, _, .non => rfl
  | _, _, .bl b => rfl
  | _, _, .int i => rfl
  | _, _, .str x => rfl
  | _, _, .tup h r => by rw [D.cl]; exact RDs.cl r
  | _, _, .fz h r => by rw [D.cl]; exact RDs.cl r
  | _, _, .ref h => by rw [D.cl]; exact decide_eq_true (List.getElem?_eq_some_iff.mp h).1
  | _, _, .fn h => rfl
theorem RDs.cl : ∀ {ds : List D} {vs : List V}, RDs c ι H ds vs → D.cls ι.length ds = true
  | _, _, .nil => rfl
  | _, _, .cons h r => by rw [D.cls, RD.cl h, RDs.cl r]; rfl
end
theorem RKs.cl : ∀ {kvs : List (D × D)} {ks : List (Key × V)}, RKs c ι H kvs ks → D.cls ι.length (kvs.map (·.1)) = true ∧ D.cls ι.length (kvs.map (·.2)) = true
  | _, _, .nil => ⟨rfl, rfl⟩
  | (d, e) :: kvs, _, .cons k h r => by
    obtain ⟨h1, h2⟩ := RKs.cl r
    refine ⟨?_, ?_⟩
    · show D.cls ι.length (d :: kvs.map (·.1)) = true
      rw [D.cls, h1]
      cases d <;> first | (cases k; done) | rfl
    · show D.cls ι.length (e :: kvs.map (·.2)) = true
      rw [D.cls, h2, h.cl]; rfl
theorem RO.cl {o : O} {a : Addr} (h : RO c ι H o a) : o.cl ι.length = true := by
  cases o with
  | lst ds =>
    obtain ⟨vs, _, h2⟩ := h
    exact h2.cl
  | dic kvs =>
    obtain ⟨ks, _, h2⟩ := h
    obtain ⟨h3, h4⟩ := h2.cl
    show (D.cls _ _ && D.cls _ _) = true
    rw [h3, h4]; rfl
  | ins _ _ => exact h.elim
  | fdc kvs =>
    obtain ⟨x, ks, _, h2⟩ := h
    obtain ⟨h3, h4⟩ := h2.cl
    show (D.cls _ _ && D.cls _ _) = true
    rw [h3, h4]; rfl
/-- longer numbers cut back -/
theorem cut_get {n : Nat} {a : Addr} {t : List Addr} (h : (ι ++ t)[n]? = some a) (l : n < ι.length) : ι[n]? = some a := by
  rwa [List.getElem?_append_left l] at h
mutual
theorem RD.back {t : List Addr} : ∀ {d : D} {v : V}, RD c (ι ++ t) H d v → d.cl ι.length = true → RD c ι H d v
  | _, _, .non, _ => .non
  | _, _, .bl b, _ => .bl b
  | _, _, .int i, _ => .int i
  | _, _, .str x, _ => .str x
  | _, _, .tup h r, e => .tup h (RDs.back r (by rwa [D.cl] at e))
  | _, _, .fz h r, e => .fz h (RDs.back r (by rwa [D.cl] at e))
  | _, _, .ref h, e => .ref (cut_get h (by rw [D.cl] at e; exact of_decide_eq_true e))
  | _, _, .fn h, _ => .fn h
theorem RDs.back {t : List Addr} : ∀ {ds : List D} {vs : List V}, RDs c (ι ++ t) H ds vs → D.cls ι.length ds = true → RDs c ι H ds vs
  | _, _, .nil, _ => .nil
  | _, _, .cons h r, e => by
    rw [D.cls, Bool.and_eq_true] at e
    exact .cons (RD.back h e.1) (RDs.back r e.2)
end
theorem RKs.back {t : List Addr} : ∀ {kvs : List (D × D)} {ks : List (Key × V)}, RKs c (ι ++ t) H kvs ks → D.cls ι.length (kvs.map (·.2)) = true → RKs c ι H kvs ks
  | _, _, .nil, _ => .nil
  | (d, e) :: kvs, _, .cons k h r, q => by
    have q : (D.cl ι.length e && D.cls ι.length (kvs.map (·.2))) = true := q
    rw [Bool.and_eq_true] at q
    exact .cons k (h.back q.1) (RKs.back r q.2)
theorem RO.back {t : List Addr} {o : O} {a : Addr} (h : RO c (ι ++ t) H o a) (e : o.cl ι.length = true) : RO c ι H o a := by
  cases o with
  | lst ds =>
    obtain ⟨vs, h1, h2⟩ := h
    exact ⟨vs, h1, h2.back e⟩
  | dic kvs =>
    obtain ⟨ks, h1, h2⟩ := h
    have e : (D.cls ι.length (kvs.map (·.1)) && D.cls ι.length (kvs.map (·.2))) = true := e
    rw [Bool.and_eq_true] at e
    exact ⟨ks, h1, h2.back e.2⟩
  | ins _ _ => exact h
  | fdc kvs =>
    obtain ⟨x, ks, h1, h2⟩ := h
    have e : (D.cls ι.length (kvs.map (·.1)) && D.cls ι.length (kvs.map (·.2))) = true := e
    rw [Bool.and_eq_true] at e
    exact ⟨x, ks, h1, h2.back e.2⟩
theorem Stp.back {t : List Addr} (s : Stp ι H (ι ++ t) H') : Stp ι H ι H' :=
  ⟨⟨[], by simp⟩, s.tup, s.frz, s.keep, fun a m n => absurd m n, s.dom⟩
theorem RH.back {t : List Addr} {h h' : Hm} (R : RH c ι H h) (R' : RH c (ι ++ t) H' h') (st : Stable h h') : RH c ι H' (h'.take h.length) where
  len := by rw [List.length_take, R.len]; have := st.1; omega
  nd := R.nd
  obj := fun n o a e1 e2 => by
    have hn : n < h.length := by
      have := (List.getElem?_eq_some_iff.mp e1).1
      rw [List.length_take] at this
      omega
    rw [List.getElem?_take_of_lt hn] at e1
    have r := R'.obj n o a e1 (by rw [List.getElem?_append_left (by rw [R.len]; exact hn)]; exact e2)
    refine r.back ?_
    rw [R.len]
    rcases st.2 n hn with q | ⟨o2, q, q2⟩
    · rw [q] at e1
      have := (R.obj n o a e1 e2).cl
      rwa [R.len] at this
    · rw [q] at e1
      cases e1
      exact q2
  tab := R'.tab
theorem after_gc {α : Type} {h : Hm} {r : Res D} {Q : VK} {W : Nat → Hp → Prop} (R : RH c ι H h) (a : After c ι H (gcR h r) (RD c) Q W) : After c ι H r (RD c) Q W := by
  cases r with
  | bad => exact a
  | exc x h' =>
    unfold gcR at a
    split at a
    · rename_i e
      cases e
    · rename_i x2 h2 e
      cases e
      split at a
      · rename_i st
        intro ι' H' s R'
        obtain ⟨t, rfl⟩ := s.pre
        exact a ι H' s.back (R.back R' st)
      · exact a
    · exact a.elim
  | ok d h' =>
    unfold gcR at a
    split at a
    · rename_i d2 h2 e
      cases e
      split at a
      · rename_i st
        unfold gcOk at a
        split at a
        · rename_i hc
          intro ι' H' v s R' g
          obtain ⟨t, rfl⟩ := s.pre
          exact a ι H' v s.back (R.back R' st) (g.back (by rw [R.len]; exact hc))
        · split at a
          · rename_i m hc
            split at a
            · rename_i xs e2
              split at a
              · rename_i hx
                intro ι' H' v s R' g
                obtain ⟨t, rfl⟩ := s.pre
                cases g with
                | ref g =>
                  rename_i p
                  have hm : ¬ m < ι.length := fun z => hc (by rw [D.cl, ← R.len]; exact decide_eq_true z)
                  have np : p ∉ ι := fun z => by
                    obtain ⟨i, hi, ei⟩ := List.getElem_of_mem z
                    have e3 : (ι ++ t)[i]? = some p := by rw [List.getElem?_append_left hi, List.getElem?_eq_getElem hi, ei]
                    exact hm (by rw [nodup_at R'.nd g e3]; exact hi)
                  have Hp0 : H p = none := s.new p (List.mem_of_getElem? g) np
                  have ro := R'.obj m _ p e2 g
                  have Rb := R.back R' st
                  refine a (ι ++ [p]) H' _ (s.back.box Rb np Hp0) ?_ (.ref ?_)
                  · exact Rb.box np (ro.back (by rw [R.len]; exact hx))
                  · rw [← R.len, List.getElem?_append_right (Nat.le_refl _), Nat.sub_self]; rfl
              · exact a
            · exact a
          · exact a
      · exact a
    · rename_i e
      cases e
    · exact a.elim
end
/-! ### constants of the module -/
mutual
/-- the value u of the written part is d -/
def glV (K : PySem.W.Frag) : D → Value → Bool
  | .non, u => (match u with
    | .none => true
    | _ => false)
  | .bl b, u => (match u with
    | .bool c => decide (b = c)
    | _ => false)
  | .int i, u => (match u with
    | .int j _ => decide (i = j)
    | _ => false)
  | .str x, u => (match u with
    | .str y _ => decide (st x = y)
    | _ => false)
  | .tup ds, u => (match u with
    | .ref a => (match K.lookup a with
      | some ⟨.type c, _, .seq its _, _⟩ => decide (c = "tuple") && (decide (its.size ≤ sizeLine) && glVs K ds its.toList)
      | _ => false)
    | _ => false)
  | .fz _, _ => false
  | .ref _, _ => false
  | .fn _, _ => false
def glVs (K : PySem.W.Frag) : List D → List Value → Bool
  | [], us => (match us with
    | [] => true
    | _ => false)
  | d :: ds, us => (match us with
    | u :: us => glV K d u && glVs K ds us
    | _ => false)
end
mutual
theorem glV_ok {c : Cn} : ∀ (d : D) {u : Value}, glV c.K d u = true → ∃ v, RelV v u ∧ ∀ ι H, RD c ι H d v
  | .non, u, h => by
    cases u with
    | none => exact ⟨.non, rfl, fun _ _ => .non⟩
    | _ => exact nomatch (show false = true from h)
  | .bl b, u, h => by
    cases u with
    | bool b2 =>
      have e : b = b2 := of_decide_eq_true h
      subst e
      exact ⟨.bl b, rfl, fun _ _ => .bl b⟩
    | _ => exact nomatch (show false = true from h)
  | .int i, u, h => by
    cases u with
    | int j t =>
      have e : i = j := of_decide_eq_true h
      subst e
      exact ⟨.int i, ⟨t, rfl⟩, fun _ _ => .int i⟩
    | _ => exact nomatch (show false = true from h)
  | .str x, u, h => by
    cases u with
    | str y t =>
      have e : st x = y := of_decide_eq_true h
      subst e
      exact ⟨.str (st x), ⟨t, rfl⟩, fun _ _ => .str x⟩
    | _ => exact nomatch (show false = true from h)
  | .tup ds, u, h => by
    cases u with
    | ref a =>
      have h : (match c.K.lookup a with
        | some ⟨.type c, _, .seq its _, _⟩ => decide (c = "tuple") && (decide (its.size ≤ sizeLine) && glVs _ ds its.toList)
        | _ => false) = true := h
      split at h
      · rename_i n od its m osl e
        simp only [Bool.and_eq_true, decide_eq_true_eq] at h
        obtain ⟨h1, h2, h3⟩ := h
        subst h1
        obtain ⟨vs, r, g⟩ := glVs_ok ds h3
        exact ⟨.ref a, rfl, fun ι H => .tup (.inr ⟨_, its, m, e, rfl, rfl, h2, r⟩) (g ι H)⟩
      · cases h
    | _ => exact nomatch (show false = true from h)
  | .fz _, u, h => by exact nomatch (show false = true from h)
  | .ref _, u, h => by exact nomatch (show false = true from h)
  | .fn _, u, h => by exact nomatch (show false = true from h)
theorem glVs_ok {c : Cn} : ∀ (ds : List D) {us : List Value}, glVs c.K ds us = true → ∃ vs, Vals vs us ∧ ∀ ι H, RDs c ι H ds vs
  | [], us, h => by
    cases us with
    | nil => exact ⟨[], .nil, fun _ _ => .nil⟩
    | cons _ _ => exact nomatch (show false = true from h)
  | d :: ds, us, h => by
    cases us with
    | nil => exact nomatch (show false = true from h)
    | cons u us =>
      have h : (glV c.K d u && glVs c.K ds us) = true := h
      rw [Bool.and_eq_true] at h
      obtain ⟨v, r, g⟩ := glV_ok d h.1
      obtain ⟨vs, rs, gs⟩ := glVs_ok ds h.2
      exact ⟨v :: vs, .cons r rs, fun ι H => .cons (g ι H) (gs ι H)⟩
end
def glbB (K : PySem.W.Frag) (p : Str × D) : Bool := match PySem.W.nsIn K mainGlobals p.1 with
  | some (some u) => glV K p.2 u
  | _ => false
def Pgm.ex (p : Pgm) (K : PySem.W.Frag) : Bool := p.glb.all (glbB K)
/-! ### a program -/
def Pgm.tb (p : Pgm) : Tb := ⟨p.defs.map (·.name), p.glb.map (·.1), p.free, false⟩
def Pgm.fa (p : Pgm) : List He.Fa := p.defs.map (fun d => .glo d.name) ++ p.free.map .free
def scB (N ps : List Str) (sc : Scope) : Bool :=
  decide (sc.kind = .function) && (!sc.isCoroutine && (!sc.isGenerator && (decide N.Nodup && (decide (N.take ps.length = ps) && ((ps.all fun x => decide (sc.names.lookup x = some .local) || decide (sc.names.lookup x = some .cell)) && (sc.names.all fun y => !decide (y.2 = .free)))))))
theorem scB_ok {N ps : List Str} {sc : Scope} (h : scB N ps sc = true) : FnScope N ps sc := by
  unfold scB at h
  simp only [Bool.and_eq_true, List.all_eq_true, decide_eq_true_eq, Bool.or_eq_true, Bool.not_eq_true', decide_eq_false_iff_not] at h
  obtain ⟨h1, h2, h3, h4, h5, h6, h7⟩ := h
  exact ⟨h1, h2, h3, h4, h5, h6, h7⟩
def arB (ps : List Str) (p : Arguments) : Bool := match p with
  | ⟨[], as, none, [], [], none, []⟩ => decide (as.map (·.arg) = ps)
  | _ => false
theorem lookup_zip : ∀ {ps : List Str} {us : List Value}, us.length = ps.length → ∀ n ∈ ps, ((ps.zip us).lookup n).isNone = false
  | [], _, _, n, m => by cases m
  | p :: ps, [], h, n, m => by cases h
  | p :: ps, u :: us, h, n, m => by
    rw [List.zip_cons_cons, List.lookup_cons]
    cases e : n == p with
    | true => rfl
    | false =>
      dsimp only
      refine lookup_zip (us := us) (by simpa using h) n ?_
      rcases List.mem_cons.mp m with z | z
      · rw [z] at e; simp at e
      · exact z
theorem lookup_all : ∀ {ps : List Str} {us : List Value}, ps.Nodup → us.length = ps.length → ps.filterMap (fun n => (List.lookup n (ps.zip us)).map fun x => (n, x)) = ps.zip us
  | [], [], _, _ => rfl
  | [], _ :: _, _, h => by cases h
  | p :: ps, [], _, h => by cases h
  | p :: ps, u :: us, nd, h => by
    obtain ⟨n1, n2⟩ := List.nodup_cons.mp nd
    have e1 : List.lookup p ((p :: ps).zip (u :: us)) = some u := by simp [List.zip_cons_cons, List.lookup_cons]
    rw [List.filterMap_cons, e1]
    show (p, u) :: ps.filterMap (fun n => (List.lookup n ((p :: ps).zip (u :: us))).map fun x => (n, x)) = (p, u) :: ps.zip us
    congr 1
    rw [← lookup_all (us := us) n2 (by simpa using h)]
    have e2 : ∀ l : List Str, (∀ n ∈ l, n ∈ ps) → l.filterMap (fun n => (List.lookup n ((p :: ps).zip (u :: us))).map fun x => (n, x)) = l.filterMap (fun n => (List.lookup n (ps.zip us)).map fun x => (n, x)) := by
      intro l
      induction l with
      | nil => intro _; rfl
      | cons n l ih =>
        intro hm
        have hn : n ∈ ps := hm n List.mem_cons_self
        have ne : (n == p) = false := by
          rw [beq_eq_false_iff_ne]
          exact fun z => n1 (z ▸ hn)
        have e3 : List.lookup n ((p :: ps).zip (u :: us)) = List.lookup n (ps.zip us) := by
          rw [List.zip_cons_cons, List.lookup_cons, ne]
        rw [List.filterMap_cons, List.filterMap_cons, e3, ih fun m hm2 => hm m (List.mem_cons_of_mem _ hm2)]
    exact e2 ps fun _ m => m
theorem bind_gen {x qual : Str} {as : List Arg} {ps : List Str} {body : List Stmt} {scope : Scope} {kV doc pm : Value} {an : Option Addr} {cdv ct : Value} {us : List Value} (ha : as.map (·.arg) = ps) (nd : ps.Nodup) (hl : us.length = ps.length) :
    bindArgs (PySem.W.fnOf x qual ⟨[], as, none, [], [], none, []⟩ body scope .none kV doc pm an cdv ct) ⟨us, []⟩ = pure (ps.zip us) := by
  unfold bindArgs PySem.W.fnOf
  have e : seqItems? Value.none = pure none := rfl
  subst ha
  have hl2 : us.length = as.length := by simpa using hl
  have tk : List.take as.length (List.map (fun x => x.arg) as) = List.map (fun x => x.arg) as := List.take_of_length_le (by simp)
  have miss : (List.filter (fun n => (List.lookup n ((List.map (fun x => x.arg) as).zip us)).isNone) (List.map (fun x => x.arg) as)) = [] := by
    rw [List.filter_eq_nil_iff]
    intro n hn
    rw [lookup_zip (us := us) hl n hn]
    exact Bool.false_ne_true
  have fin := lookup_all (us := us) nd hl
  rw [List.filterMap_map] at fin
  simp [e, hl2]
  split
  · rename_i q
    simp [tk, miss] at q
  · rw [fin]
theorem arB_ok {ps : List Str} {p : Arguments} (h : arB ps p = true) (nd : ps.Nodup) {x qual : Str} {body : List Stmt} {scope : Scope} {kV doc pm : Value} {an : Option Addr} {cdv ct : Value} {us : List Value} (hl : us.length = ps.length) :
    bindArgs (PySem.W.fnOf x qual p body scope .none kV doc pm an cdv ct) ⟨us, []⟩ = pure (ps.zip us) := by
  unfold arB at h
  split at h
  · exact bind_gen (of_decide_eq_true h) nd hl
  · cases h
/-- the def that makes the lambda -/
def LD : Str := ("with_pair" : Str)
def Tb.at (T : Tb) (x : Str) : Tb := { T with lam := decide (x = LD) }
def dfB (T : Tb) (d : Df) (q : He.DefD) : Bool :=
  decide (q.at_ = (d.name, none)) && (decide (q.name = d.name) && (decide (q.qual = d.name) && (q.dfl.isEmpty && (q.kwd.isEmpty && (scB d.N d.ps q.scope && (arB d.ps q.params && chkSs d.N (T.at d.name) q.scope (fun _ => true) d.body q.body))))))
def dfsB (T : Tb) : List Df → List He.DefD → Bool
  | [], [] => true
  | d :: ds, q :: qs => dfB T d q && dfsB T ds qs
  | _, _ => false
def Pgm.chk (p : Pgm) (fn : List He.DefD) : Bool := decide (p.defs.length ≤ KOFF) && dfsB p.tb p.defs fn
theorem Pgm.chk_dfs {p : Pgm} {fn : List He.DefD} (h : p.chk fn = true) : dfsB p.tb p.defs fn = true := (Bool.and_eq_true_iff.mp h).2
theorem Pgm.chk_len {p : Pgm} {fn : List He.DefD} (h : p.chk fn = true) : p.defs.length ≤ KOFF := of_decide_eq_true (Bool.and_eq_true_iff.mp h).1
theorem dfsB_get {T : Tb} : ∀ {ds : List Df} {qs : List He.DefD} {i : Nat} {d : Df}, dfsB T ds qs = true → ds[i]? = some d → ∃ q, qs[i]? = some q ∧ dfB T d q = true
  | [], _, i, d, _, e => by simp at e
  | d0 :: ds, [], i, d, h, _ => by cases h
  | d0 :: ds, q :: qs, 0, d, h, e => by
    obtain ⟨h1, _⟩ := Bool.and_eq_true_iff.mp (show (dfB T d0 q && dfsB T ds qs) = true from h)
    cases e
    exact ⟨q, rfl, h1⟩
  | d0 :: ds, q :: qs, i + 1, d, h, e => by
    obtain ⟨_, h2⟩ := Bool.and_eq_true_iff.mp (show (dfB T d0 q && dfsB T ds qs) = true from h)
    obtain ⟨q2, e2, h3⟩ := dfsB_get h2 (show ds[i]? = some d from e)
    exact ⟨q2, e2, h3⟩
structure DfOk (T : Tb) (d : Df) (q : He.DefD) : Prop where
  at_ : q.at_ = (d.name, none)
  name : q.name = d.name
  qual : q.qual = d.name
  dfl : q.dfl = []
  kwd : q.kwd = []
  sc : FnScope d.N d.ps q.scope
  ar : arB d.ps q.params = true
  body : chkSs d.N (T.at d.name) q.scope (fun _ => true) d.body q.body = true
theorem dfB_ok {T : Tb} {d : Df} {q : He.DefD} (h : dfB T d q = true) : DfOk T d q := by
  unfold dfB at h
  simp only [Bool.and_eq_true, decide_eq_true_eq, List.isEmpty_iff] at h
  obtain ⟨h1, h2, h3, h4, h5, h6, h7, h8⟩ := h
  exact ⟨h1, h2, h3, h4, h5, scB_ok h6, h7, h8⟩
def Pgm.lam (p : Pgm) : Bool := p.defs.any fun d => decide (d.name = LD)
/-- the code object of that def, and its table -/
def Pgm.tabs (p : Pgm) (K : PySem.W.Frag) : List (Addr × Addr) := if p.lam then (PySem.W.tabIn K LD).toList else []
def cnOf (p : Pgm) (K : PySem.W.Frag) : Cn := ⟨K, fun i => (p.defs[i]?).map fun d => He.ga K d.name, fun _ => .none, (p.tabs K).map (·.2)⟩
theorem spM_len {c : Cn} {t : Nat → List D → Hm → Res D} {P : Pg} {k i : Nat} {vs : List V} {H : Hp} {Q : VK} {E : XK} {F : Fd} (e : P.fns[i]? = some F) (h : spM c (callG t P k i) vs H Q E) : vs.length = F.np := by
  obtain ⟨ι, hh, ds, g, _, a⟩ := h
  cases k with
  | zero => exact a.elim
  | succ k =>
    have a : After c ι H (match P.fns[i]? with
      | some F => if ds.length = F.np then gcR hh (match evSs P.G (callG t P k) F.body (startE F.n ds) hh with
          | .ok (.nx _) h' => .ok .non h'
          | .ok (.rt d) h' => .ok d h'
          | .exc c h' => .exc c h'
          | _ => .bad) else .bad
      | none => t i ds hh) (RD c) Q fun e H' => E (c.X e) none H' := a
    rw [e] at a
    dsimp only at a
    split at a
    · rename_i q
      rw [← g.length, q]
    · exact a.elim
theorem re_start {c : Cn} {ι : List Addr} {H : Hp} {N : List Str} {ds : List D} {vs : List V} (g : RDs c ι H ds vs) : RE c ι H (startE N.length ds) (L2.start N vs) := by
  unfold startE L2.start
  have hl := g.length
  refine ⟨by simp [hl], fun i d e => ?_⟩
  by_cases hi : i < ds.length
  · rw [List.getElem?_append_left (by rw [List.length_map]; exact hi), List.getElem?_map] at e
    obtain ⟨d0, e0, e1⟩ := Option.map_eq_some_iff.mp e
    cases e1
    obtain ⟨v, e2, g2⟩ := g.get e0
    refine ⟨v, ?_, g2⟩
    rw [List.getElem?_append_left (by rw [List.length_map, ← hl]; exact hi), List.getElem?_map, e2]
    rfl
  · rw [List.getElem?_append_right (by rw [List.length_map]; omega), List.getElem?_replicate] at e
    split at e
    · cases e
    · cases e
section
variable {P : Program} {w : World} {K : PySem.W.Frag} {mg : Str → Option Value} {base : Heap}
theorem facts_glo {p : Pgm} {fn : List He.DefD} (c : He.SaysD p.fa fn K) (X : K.In base) (G : base.Ns mainGlobals mg) {i : Nat} {d : Df} (e : p.defs[i]? = some d) : mg d.name = some (.ref (He.ga K d.name)) := by
  refine He.glo_ok X G (c.fact i (f := .glo d.name) ?_)
  unfold Pgm.fa
  rw [List.getElem?_append_left (by rw [List.length_map]; exact (List.getElem?_eq_some_iff.mp e).1), List.getElem?_map, e]
  rfl
theorem facts_in {p : Pgm} {fn : List He.DefD} (c : He.SaysD p.fa fn K) {i : Nat} {d : Df} (e : p.defs[i]? = some d) : PySem.W.nsIn K mainGlobals d.name = some (some (.ref (He.ga K d.name))) := by
  refine He.eqO_ok (c.fact i (f := .glo d.name) ?_)
  unfold Pgm.fa
  rw [List.getElem?_append_left (by rw [List.length_map]; exact (List.getElem?_eq_some_iff.mp e).1), List.getElem?_map, e]
  rfl
theorem facts_free {p : Pgm} {fn : List He.DefD} (c : He.SaysD p.fa fn K) (X : K.In base) (G : base.Ns mainGlobals mg) {x : Str} (m : x ∈ p.free) : mg x = none := by
  obtain ⟨i, hi, e⟩ := List.getElem_of_mem m
  refine He.free_ok X G (c.fact (p.defs.length + i) (f := .free x) ?_)
  unfold Pgm.fa
  rw [List.getElem?_append_right (by rw [List.length_map]; omega), List.length_map, Nat.add_sub_cancel_left, List.getElem?_map, List.getElem?_eq_getElem hi, e]
  rfl
theorem def_fun {p : Pgm} {fn : List He.DefD} (hc : p.chk fn = true) (c : He.SaysD p.fa fn K) {i : Nat} {d : Df} (e : p.defs[i]? = some d) : ∃ q fd, DfOk p.tb d q ∧ FunD K d.name d.name q.params q.body q.scope [] [] (He.ga K d.name) fd := by
  obtain ⟨q, e1, h⟩ := dfsB_get (Pgm.chk_dfs hc) e
  have o := dfB_ok h
  obtain ⟨fd, F⟩ := c.def_ i e1
  refine ⟨q, fd, o, ?_⟩
  have ea : He.fAd K q.at_ = He.ga K d.name := by rw [o.at_]; rfl
  have e2 : q.dvs K = [] := by unfold He.DefD.dvs; rw [o.dfl]; rfl
  have e3 : q.kws K = [] := by unfold He.DefD.kws; rw [o.kwd]; rfl
  rw [ea, e2, e3, o.name, o.qual] at F
  exact F
theorem glb_ok {p : Pgm} (ex : p.ex K = true) (X : K.In base) (G : base.Ns mainGlobals mg) {i : Nat} {x : Str} (e : (p.glb.map (·.1))[i]? = some x) : ∃ (u : Value) (v : V), mg x = some u ∧ RelV v u ∧ ∀ ι H, RD (cnOf p K) ι H (p.pg.G i) v := by
  rw [List.getElem?_map] at e
  obtain ⟨q, e1, rfl⟩ := Option.map_eq_some_iff.mp e
  have h := List.all_eq_true.mp ex q (List.mem_of_getElem? e1)
  unfold glbB at h
  split at h
  · rename_i u hu
    obtain ⟨v, r, g⟩ := glV_ok (c := cnOf p K) q.2 h
    refine ⟨u, v, PySem.W.mg_of X G hu, r, fun ι H => ?_⟩
    have eg : p.pg.G i = q.2 := by
      show (p.glb.map (·.2)).getD i .non = q.2
      rw [List.getD_eq_getElem?_getD, List.getElem?_map, e1]; rfl
    rw [eg]; exact g ι H
  · cases h
theorem bad_ok {c : Cn} {j : Nat} {f : Addr} {fd : FuncData} {ps : List Str} : FnOk P w K mg base (L2.CX P w) j f fd ps (spM c (fun _ _ => .bad)) :=
  ⟨fun _ _ _ _ h => by obtain ⟨_, _, _, _, _, a⟩ := h; exact a.elim, fun _ _ _ _ _ _ _ _ _ _ _ _ _ h => by obtain ⟨_, _, _, _, _, a⟩ := h; exact a.elim⟩
theorem callG_key {t : Nat → List D → Hm → Res D} {p : Pgm} {k i : Nat} (h : p.defs.length ≤ KOFF) : callG t p.pg (k + 1) (i + KOFF) = t (i + KOFF) := by
  funext ds hh
  unfold callG
  have e : p.pg.fns[i + KOFF]? = none := by
    rw [List.getElem?_eq_none_iff]
    show (p.defs.map Df.fd).length ≤ _
    rw [List.length_map]
    omega
  rw [e]
theorem prog_gen {p : Pgm} {fn : List He.DefD} (hc : p.chk fn = true) (ex0 : p.ex K = true) (c : He.SaysD p.fa fn K) (X : K.In base) (G : base.Ns mainGlobals mg) (t : Nat → List D → Hm → Res D) (o2 : Nat) (ho2 : 3 ≤ o2) (tb : ∀ q ∈ p.tabs K, LamX.TabB base mg q.1 q.2) (lt : p.lam = true → (PySem.W.tabIn K LD).isSome = true)
    (tk : ∀ (i : Nat) (d : Df), p.defs[i]? = some d → ∀ (q : He.DefD) (fd : FuncData), DfOk p.tb d q → FunD K d.name d.name q.params q.body q.scope [] [] (He.ga K d.name) fd → FnOk P w K mg base (L2.CX P w) o2 (He.ga K d.name) fd d.ps (spM (cnOf p K) (t (i + KOFF)))) :
    ∀ (k i : Nat) (d : Df), p.defs[i]? = some d → ∀ (q : He.DefD) (fd : FuncData), DfOk p.tb d q → FunD K d.name d.name q.params q.body q.scope [] [] (He.ga K d.name) fd →
      FnOk P w K mg base (L2.CX P w) (k + (o2 + 2)) (He.ga K d.name) fd d.ps (spM (cnOf p K) (callG t p.pg k i)) := by
  have ef : ∀ {i : Nat} {d : Df}, p.defs[i]? = some d → p.pg.fns[i]? = some d.fd := fun e => by
    show (p.defs.map Df.fd)[_]? = _
    rw [List.getElem?_map, e]; rfl
  intro k
  induction k with
  | zero =>
    intro i d e q fd o F
    refine ⟨fun vs H Q E h => spM_len (ef e) h, fun A outer s H args us vs Q E _ _ _ _ h => ?_⟩
    obtain ⟨_, _, _, _, _, a⟩ := h
    exact a.elim
  | succ k ih =>
    intro i d e q fd o F
    rw [Nat.add_right_comm]
    obtain ⟨oc, od, dV, kV, doc, pm, an, cdv, ct, osl, rfl, lk, hcd, _, _⟩ := F.ex
    refine fn_of lk hcd o.sc (fun vs H Q E h => spM_len (ef e) h) fun A outer s H vs Q E hr h => ?_
    obtain ⟨ι, hh, ds, g, R, a⟩ := h
    have C : Cok (cxOf (L2.CX P w) P w K mg base d.N d.name q.scope (He.ga K d.name) cdv A outer s H E) (cnOf p K) d.N q.scope (fun _ => true) (k + (o2 + 2)) (p.tb.at d.name) p.pg.G (callG t p.pg k) (fun cls dd _ H => E cls dd H) := by
      refine ⟨rfl, o.sc.nd, rfl, rfl, rfl, hr, fun _ _ => rfl, fun j x ex => ?_, fun j x ex => ?_, fun j x ex => ?_, fun j a ea => ?_, fun x m => facts_free c X G m, fun j x ex => ?_, fun hl => ?_, takes_of rfl rfl rfl rfl, passes_of rfl⟩
      · have ex : (p.defs.map (·.name))[j]? = some x := ex
        rw [List.getElem?_map] at ex
        obtain ⟨d2, e2, rfl⟩ := Option.map_eq_some_iff.mp ex
        obtain ⟨q2, fd2, o2, F2⟩ := def_fun hc c e2
        refine ⟨_, fd2, d2.ps, facts_glo c X G e2, F2.kp, ?_, ih j d2 e2 q2 fd2 o2 F2⟩
        exact F2.bindsN fun _ _ _ _ _ _ us hl => arB_ok o2.ar (by rw [← o2.sc.pre]; exact o2.sc.nd.sublist (List.take_sublist _ _)) hl
      · have ex : (p.defs.map (·.name))[j]? = some x := ex
        rw [List.getElem?_map] at ex
        obtain ⟨d2, e2, rfl⟩ := Option.map_eq_some_iff.mp ex
        obtain ⟨q2, fd2, o2', F2⟩ := def_fun hc c e2
        refine ⟨_, fd2, d2.ps, k + o2, facts_glo c X G e2, F2.bindsN fun _ _ _ _ _ _ us hl => arB_ok o2'.ar (by rw [← o2'.sc.pre]; exact o2'.sc.nd.sublist (List.take_sublist _ _)) hl, Room.in1 (Room.in1 hr), ?_⟩
        cases k with
        | zero => exact bad_ok
        | succ k =>
          rw [callG_key (Pgm.chk_len hc)]
          exact (tk j d2 e2 q2 fd2 o2' F2).mono (Nat.le_add_left _ _)
      · have ex : (p.defs.map (·.name))[j]? = some x := ex
        rw [List.getElem?_map] at ex
        obtain ⟨d2, e2, rfl⟩ := Option.map_eq_some_iff.mp ex
        exact ⟨_, facts_glo c X G e2, by show (p.defs[j]?).map _ = _; rw [e2]; rfl⟩
      · have ea : (p.defs[j]?).map (fun d => He.ga K d.name) = some a := ea
        obtain ⟨d2, e2, _⟩ := Option.map_eq_some_iff.mp ea
        exact ⟨d2.name, by show (p.defs.map (·.name))[j]? = _; rw [List.getElem?_map, e2]; rfl⟩
      · exact glb_ok ex0 X G ex
      · have hd : d.name = LD := of_decide_eq_true hl
        have pl : p.lam = true := List.any_eq_true.mpr ⟨d, List.mem_of_getElem? e, decide_eq_true hd⟩
        obtain ⟨⟨a, P⟩, ht⟩ := Option.isSome_iff_exists.mp (lt pl)
        have et : p.tabs K = [(a, P)] := by unfold Pgm.tabs; rw [if_pos pl, ht]; rfl
        have tb1 := tb (a, P) (by rw [et]; exact List.mem_singleton.mpr rfl)
        have ec : cdv = .ref a := by
          have g := facts_in c e
          rw [hd] at g lk
          unfold PySem.W.tabIn at ht
          rw [g] at ht
          dsimp only at ht
          rw [lk] at ht
          dsimp only at ht
          split at ht
          · split at ht
            · split at ht
              · cases ht
                rfl
              · cases ht
            · cases ht
          · cases ht
        refine ⟨a, P, ec, tb1, fun Q => ?_, ?_, k + (o2 - 3), ?_⟩
        · show Q ∈ (p.tabs K).map (·.2) ↔ Q = P
          rw [et]; simp
        · show (d.name ++ ".<locals>.") ++ "<lambda>" = LN
          rw [hd]; rfl
        · have := Room.in1 (Room.in1 hr)
          have e3 : k + (o2 + 2) = k + (o2 - 3) + 3 + 1 + 1 := by omega
          rw [e3] at hr
          exact Room.in1 (Room.in1 hr)
    refine ⟨tS (cnOf p K) (fun cls dd _ H => E cls dd H) d.body.as (evSs p.pg.G (callG t p.pg k) d.body), chkSs_ok d.body (fun _ m => m) o.sc.kind C o.body, ?_⟩
    refine ⟨ι, startE d.N.length ds, hh, re_start g, R, ?_⟩
    have a : After (cnOf p K) ι H (match p.pg.fns[i]? with
      | some F => if ds.length = F.np then gcR hh (match evSs p.pg.G (callG t p.pg k) F.body (startE F.n ds) hh with
          | .ok (.nx _) h' => .ok .non h'
          | .ok (.rt d) h' => .ok d h'
          | .exc c h' => .exc c h'
          | _ => .bad) else .bad
      | none => t i ds hh) (RD (cnOf p K)) Q fun e H' => E ((cnOf p K).X e) none H' := a
    rw [ef e] at a
    dsimp only at a
    split at a
    · have a2 := after_gc (α := D) R a
      have a2 : After (cnOf p K) ι H (match evSs p.pg.G (callG t p.pg k) d.body (startE d.N.length ds) hh with
          | .ok (.nx _) h' => .ok .non h'
          | .ok (.rt d) h' => .ok d h'
          | .exc c h' => .exc c h'
          | _ => .bad) (RD (cnOf p K)) Q fun e H' => E ((cnOf p K).X e) none H' := a2
      cases er : evSs p.pg.G (callG t p.pg k) d.body (startE d.N.length ds) hh with
      | bad => rw [er] at a2; exact a2
      | exc x h' =>
        rw [er] at a2
        exact fun ι' H' σ' s R' _ => a2 ι' H' s R'
      | ok out h' =>
        rw [er] at a2
        cases out with
        | nx e1 => exact fun ι' H' σ' s R' _ _ => a2 ι' H' .non s R' .non
        | rt d1 => exact a2
        | bk e1 => exact a2.elim
        | ct e1 => exact a2.elim
    · exact a.elim
theorem prog_ok {p : Pgm} {fn : List He.DefD} (hc : p.chk fn = true) (ex0 : p.ex K = true) (c : He.SaysD p.fa fn K) (X : K.In base) (G : base.Ns mainGlobals mg) (tb : ∀ q ∈ p.tabs K, LamX.TabB base mg q.1 q.2) (lt : p.lam = true → (PySem.W.tabIn K LD).isSome = true) :
    ∀ (k i : Nat) (d : Df), p.defs[i]? = some d → ∀ (q : He.DefD) (fd : FuncData), DfOk p.tb d q → FunD K d.name d.name q.params q.body q.scope [] [] (He.ga K d.name) fd →
      FnOk P w K mg base (L2.CX P w) (k + 10) (He.ga K d.name) fd d.ps (spM (cnOf p K) (callF p.pg k i)) :=
  prog_gen hc ex0 c X G (tl p.pg) 8 (by decide) tb lt fun i d e q fd o F => by
    have z := prog_gen (P := P) (w := w) hc ex0 c X G tl0 3 (by decide) tb lt (fun _ _ _ _ _ _ _ => bad_ok) 3 i d e q fd o F
    have e2 : tl p.pg (i + KOFF) = callG tl0 p.pg 3 i := by
      show callG tl0 p.pg 3 (i + KOFF - KOFF) = _
      rw [Nat.add_sub_cancel]
    rw [e2]
    exact z
end
end MP

/-! MP9: a law's end. -/
namespace MP
open PySem PySem.Spec PyProof.Rows L2
/-- a run's equation in four parts (each is a kernel run of its own: less memory at a time) -/
theorem opt4 {σ α β γ δ : Type} {m : Option σ} {f : σ → α} {g : σ → β} {h : σ → γ} {k : σ → δ} {a : α} {b : β} {c : γ} {d : δ} (h1 : m.map f = some a) (h2 : m.map g = some b) (h3 : m.map h = some c) (h4 : m.map k = some d) : m.map (fun s => (f s, g s, (h s, k s))) = some (a, b, (c, d)) := by
  cases m with
  | none => cases h1
  | some s =>
    cases h1
    cases h2
    cases h3
    cases h4
    rfl
theorem opt2 {σ α β : Type} {m : Option σ} {f : σ → α × β} {a : α × β} (h1 : m.map (fun s => (f s).1) = some a.1) (h2 : m.map (fun s => (f s).2) = some a.2) : m.map f = some a := by
  cases m with
  | none => cases h1
  | some s => exact congrArg some (Prod.ext (Option.some.inj h1) (Option.some.inj h2))
theorem optTD {σ α : Type} {m : Option σ} {f : σ → List α} {a : List α} {n : Nat} (h1 : m.map (fun s => (f s).take n) = some (a.take n)) (h2 : m.map (fun s => (f s).drop n) = some (a.drop n)) : m.map f = some a := by
  cases m with
  | none => cases h1
  | some s =>
    have h1 : (f s).take n = a.take n := Option.some.inj h1
    have h2 : (f s).drop n = a.drop n := Option.some.inj h2
    exact congrArg some (by rw [← List.take_append_drop n (f s), h1, h2, List.take_append_drop])
theorem FnOk.cold {P : Program} {w : World} {K : PySem.W.Frag} {mg : Str → Option Value} {base : Heap} {k : Nat} {f : Addr} {fd : FuncData} {ps : List Str} {sp : Sp} (F : FnOk P w K mg base (L2.CX P w) k f fd ps sp) :
    FnOk P w K mg base L2.CX0 k f fd ps (fun vs H Q _ => sp vs H Q fun _ _ _ => False) :=
  ⟨fun vs H Q E h => F.len vs H Q _ h, fun A outer s H args us vs Q E hr e0 hb r h => codeAny_mono (F.run A outer s H args us vs Q (fun _ _ _ => False) hr e0 hb r h) fun r s' h' => by
    cases r with
    | ok f => cases f <;> exact h'
    | error e =>
      obtain ⟨_, _, _, _, _, _, _, _, _, _, _, _, z⟩ := h'
      exact z.elim⟩
theorem script_sq {K : PySem.W.Frag} {H : Hp} {a : Addr} {vs : List V} (o : Only H) (h : SqL K H a vs) : SqF K H a vs := by
  rcases h with (h | ⟨o2, h⟩) | h
  · rcases o a with z | ⟨o3, xs, z⟩
    · rw [z] at h; cases h
    · rw [z] at h; cases h
  · exact .inl ⟨o2, h⟩
  · exact .inr (.inr h)
theorem ints_rd {c : Cn} {ι : List Addr} {H : Hp} : ∀ ns : List Int, RDs c ι H (ns.map .int) (ns.map V.int)
  | [] => .nil
  | n :: ns => .cons (.int n) (ints_rd ns)
/-- the hook: the defs as they stand, and the module's constants -/
def hookG (n : Nat) (fa : List He.Fa) (fn : List He.DefD) (ex : PySem.W.Frag → Bool) : PySem.W.Hook where
  α := He.AlD × Bool
  obs := fun s => (He.obsDG n fa fn s.heap.get?, ex (He.frG s.heap.get? (He.asD s.heap.get? n)))
  val := fun _ => (He.valD fn, true)
  says := fun _ h => ∃ K : PySem.W.Frag, K.In h ∧ He.SaysD fa fn K ∧ ex K = true
  of := fun w s e => ⟨He.frG s.heap.get? (He.asD s.heap.get? n), He.frG_in, show He.obsDG n fa fn s.heap.get? = He.valD fn from congrArg (fun z : He.AlD × Bool => z.1) e, show ex (He.frG s.heap.get? (He.asD s.heap.get? n)) = true from congrArg (fun z : He.AlD × Bool => z.2) e⟩
  keeps := fun _ _ _ ⟨K, hK, c⟩ k => ⟨K, PySem.W.Frag.In.keeps hK k, c⟩
def obG (n : Nat) (fa : List He.Fa) (fn : List He.DefD) (ex : PySem.W.Frag → Bool) (g : Addr → Option Obj) : He.AlD × Bool := (He.obsDG n fa fn g, ex (He.frG g (He.asD g n)))
theorem obG_eq {n : Nat} {fa : List He.Fa} {fn : List He.DefD} {ex : PySem.W.Frag → Bool} {g : Addr → Option Obj} {s : Shared} (h : ∀ a, g a = s.heap.get? a) : obG n fa fn ex g = (hookG n fa fn ex).obs s := by
  have e : g = s.heap.get? := funext h
  rw [e] <;> rfl
theorem law_walk {l : PySem.W.OpenLaw} {p : Pgm} {fn : List He.DefD} {q : Program} {loose : List Str} {XP : (Str → Option Value) → Heap → Prop} {d : DefRec} {k i : Nat} {dl : Df} (hn : l.most = some 63) (hdf : d.params.defaults = []) (hr : Room (k + 10) callerA) (hname : d.name = "law")
    (hc : p.chk fn = true) (hi : p.defs[i]? = some dl) (hl : dl.name = "law") (hps : dl.ps = [("script" : Str)]) (hlam : p.lam = false)
    (plain : ∀ ns : List Int, ns.length ≤ 63 → ∃ h', callF p.pg k i [.fz (ns.map .int)] [] = .ok (.bl true) h') :
    PySem.W.WalkO q loose XP (hookG 4 p.fa fn p.ex).says l.row.toRowW d [] (fun f vs => PySem.call f vs) := by
  refine L2.walk_ofE (l := l) (n := 63) (k := k + 10) (x := "script") (CX := L2.CX0) hn (by rw [sl_eq]; decide) hdf hr (fun w mg fa h Y G hmg0 => ?_) (fun _ _ _ _ z => z)
  obtain ⟨K, KX, c, ex⟩ := Y
  have c : He.SaysD p.fa fn K := c
  rw [hname] at hmg0
  obtain ⟨qd, fd, o, F⟩ := def_fun hc c hi
  have e := hmg0.symm.trans (hl ▸ facts_glo c KX G hi)
  cases e
  have hb := FunD.bindsA (ps := dl.ps) F fun _ _ _ _ _ _ us hl2 => arB_ok o.ar (by rw [← o.sc.pre]; exact o.sc.nd.sublist (List.take_sublist _ _)) hl2
  refine ⟨K, fd, fun vs H Q _ => spM (cnOf p K) (callF p.pg k i) vs H Q fun _ _ _ => False, KX, fun s u => ?_, fun H a ns hlen ho hs => ?_, fun base KB GB => ?_⟩
  · have := hb s [u] (by rw [hps]; rfl)
    rw [hps] at this
    exact this
  · obtain ⟨h', e⟩ := plain ns hlen
    refine ⟨[], [], [.fz (ns.map .int)], .one (.fz (script_sq ho hs) (ints_rd ns)), ⟨rfl, .nil, (fun n o a e => by simp at e), fun P m => by simp [cnOf, Pgm.tabs, hlam] at m⟩, ?_⟩
    rw [e]
    intro ι' H' v s R g
    cases g
    rfl
  · have := FnOk.cold (prog_ok (P := l.prog) (w := w) hc ex c KB GB (fun q m => by simp [Pgm.tabs, hlam] at m) (fun z => by rw [hlam] at z; cases z) k i dl hi qd fd o F)
    rw [hps, hl] at this
    exact this
end MP

/-! MW: rules for the evaluator: what a step gives, in the manner of weakest preconditions. -/
namespace MP
open PySem
def Sat {α : Type} (r : Res α) (Q : α → Hm → Prop) : Prop := match r with
  | .ok a h => Q a h
  | _ => False
section
variable {α β : Type} {Q Q' : α → Hm → Prop} {r : Res α} {h : Hm}
@[simp] theorem sat_ok {a : α} : Sat (.ok a h) Q ↔ Q a h := Iff.rfl
@[simp] theorem sat_bad : Sat (.bad : Res α) Q ↔ False := Iff.rfl
theorem Sat.mono (s : Sat r Q) (k : ∀ a h, Q a h → Q' a h) : Sat r Q' := by
  cases r with
  | ok a h => exact k a h s
  | _ => exact s
theorem sat_bind {f : α → Hm → Res β} {Q : β → Hm → Prop} : Sat (r.bind f) Q ↔ Sat r fun a h => Sat (f a h) Q := by cases r <;> exact Iff.rfl
theorem sat_congr {Q Q' : α → Hm → Prop} (k : ∀ a h, Q a h ↔ Q' a h) : Sat r Q ↔ Sat r Q' := ⟨fun s => s.mono fun a h => (k a h).mp, fun s => s.mono fun a h => (k a h).mpr⟩
theorem Sat.ex (s : Sat r Q) : ∃ a h, r = .ok a h ∧ Q a h := by
  cases r with
  | ok a h => exact ⟨a, h, rfl, s⟩
  | _ => exact s.elim
theorem Sat.eq {a : α} (s : Sat r fun a' h' => a' = a ∧ h' = h) : r = .ok a h := by
  obtain ⟨a', h', e, rfl, rfl⟩ := s.ex
  exact e
theorem sat_of {a : α} {h' : Hm} (e : r = .ok a h') (q : Q a h') : Sat r Q := by rw [e]; exact q
end
@[simp] theorem sat_ok1 {d : D} {h : Hm} {Q : RV → Hm → Prop} : Sat (ok1 d h) Q ↔ Q (.v d) h := Iff.rfl
@[simp] theorem sat_ite {α : Type} {p : Prop} [Decidable p] {r : Res α} {Q : α → Hm → Prop} : Sat (if p then r else .bad) Q ↔ p ∧ Sat r Q := by
  by_cases hp : p
  · simp [hp]
  · simp [hp]
/-- a test's two ways -/
def TK (x : RV) (A B : Prop) : Prop := match x with
  | .v (.bl true) => A
  | .v (.bl false) => B
  | _ => False
@[simp] theorem tk_bl {b : Bool} {A B : Prop} : TK (.v (.bl b)) A B ↔ (b = true → A) ∧ (b = false → B) := by cases b <;> simp [TK]
/-- a name's value -/
def VK (o : Option (Option D)) (Q : D → Prop) : Prop := match o with
  | some (some d) => Q d
  | _ => False
@[simp] theorem vk_some {d : D} {Q : D → Prop} : VK (some (some d)) Q ↔ Q d := Iff.rfl
def OK {α : Type} (o : Option α) (Q : α → Prop) : Prop := match o with
  | some d => Q d
  | none => False
@[simp] theorem ok_some {α : Type} {d : α} {Q : α → Prop} : OK (some d) Q ↔ Q d := Iff.rfl
@[simp] theorem ok_none {α : Type} {Q : α → Prop} : OK none Q ↔ False := Iff.rfl
section
variable {G : Nat → D} {cf : Nat → List D → Hm → Res D} {σ : Env} {h : Hm} {Q : RV → Hm → Prop}
@[simp] theorem w_var {i : Nat} : Sat (evE G cf (.var i) σ h) Q ↔ VK σ[i]? fun d => Q (.v d) h := by
  rw [evE]
  cases σ[i]? with
  | none => exact Iff.rfl
  | some o => cases o <;> exact Iff.rfl
@[simp] theorem w_glob {i : Nat} : Sat (evE G cf (.glob i) σ h) Q ↔ Q (.v (G i)) h := by rw [evE]; exact Iff.rfl
@[simp] theorem w_non : Sat (evE G cf .non σ h) Q ↔ Q (.v .non) h := by rw [evE]; exact Iff.rfl
@[simp] theorem w_bl {b : Bool} : Sat (evE G cf (.bl b) σ h) Q ↔ Q (.v (.bl b)) h := by rw [evE]; exact Iff.rfl
@[simp] theorem w_int {i : Int} : Sat (evE G cf (.int i) σ h) Q ↔ Q (.v (.int i)) h := by rw [evE]; exact Iff.rfl
@[simp] theorem w_str {x : Tx} : Sat (evE G cf (.str x) σ h) Q ↔ Q (.v (.str x)) h := by rw [evE]; exact Iff.rfl
@[simp] theorem w_bin {op : BOp} {a b : ME} : Sat (evE G cf (.bin op a b) σ h) Q ↔ Sat (evE G cf a σ h) fun x h1 => Sat (evE G cf b σ h1) fun y h2 => Sat (bopF op x y h2) Q := by
  rw [evE]; simp only [sat_bind]
def NK (x : RV) (h : Hm) (Q : RV → Hm → Prop) : Prop := match x with
  | .v (.int i) => Q (.v (.int (-i))) h
  | _ => False
@[simp] theorem nk_int {i : Int} {Q : RV → Hm → Prop} : NK (.v (.int i)) h Q ↔ Q (.v (.int (-i))) h := Iff.rfl
@[simp] theorem w_neg {a : ME} : Sat (evE G cf (.neg a) σ h) Q ↔ Sat (evE G cf a σ h) fun x h1 => NK x h1 Q := by
  rw [evE, sat_bind]
  have e : ∀ (x : RV) (h1 : Hm), Sat (match x with | .v (.int i) => ok1 (.int (-i)) h1 | _ => .bad) Q ↔ NK x h1 Q := by
    intro x h1
    cases x with
    | l _ => exact Iff.rfl
    | v d => cases d <;> exact Iff.rfl
  exact sat_congr e
@[simp] theorem w_cmp {op : COp} {a b : ME} : Sat (evE G cf (.cmp op a b) σ h) Q ↔ Sat (evE G cf a σ h) fun x h1 => Sat (evE G cf b σ h1) fun y h2 => OK (copB op x y h2) fun k => Q (.v (.bl k)) h2 := by
  rw [evE]; simp only [sat_bind]
  have e : ∀ (x y : RV) (h2 : Hm), Sat (copF op x y h2) Q ↔ OK (copB op x y h2) fun k => Q (.v (.bl k)) h2 := by
    intro x y h2
    unfold copF
    cases copB op x y h2 <;> exact Iff.rfl
  exact sat_congr fun x h1 => sat_congr fun y h2 => e x y h2
@[simp] theorem w_chain {o1 o2 : COp} {a b c : ME} : Sat (evE G cf (.chain o1 o2 a b c) σ h) Q ↔ Sat (evE G cf a σ h) fun x h1 => Sat (evE G cf b σ h1) fun y h2 => OK (copB o1 x y h2) fun k => (k = true → Sat (evE G cf c σ h2) fun z h4 => OK (copB o2 y z h4) fun k => Q (.v (.bl k)) h4) ∧ (k = false → Q (.v (.bl false)) h2) := by
  rw [evE]; simp only [sat_bind]
  have e : ∀ (x y : RV) (h2 : Hm), Sat (copF o1 x y h2) (fun r h3 => Sat (match r with
      | .v (.bl true) => (evE G cf c σ h3).bind fun z h4 => copF o2 y z h4
      | .v (.bl false) => ok1 (.bl false) h3
      | _ => .bad) Q) ↔ OK (copB o1 x y h2) fun k => (k = true → Sat (evE G cf c σ h2) fun z h4 => OK (copB o2 y z h4) fun k => Q (.v (.bl k)) h4) ∧ (k = false → Q (.v (.bl false)) h2) := by
    intro x y h2
    unfold copF
    have e2 : ∀ z h4, Sat (match copB o2 y z h4 with | some k => ok1 (.bl k) h4 | none => .bad) Q ↔ OK (copB o2 y z h4) fun k => Q (.v (.bl k)) h4 := by
      intro z h4
      cases copB o2 y z h4 <;> exact Iff.rfl
    cases copB o1 x y h2 with
    | none => exact Iff.rfl
    | some k =>
      cases k with
      | true =>
        have e3 : (Sat ((evE G cf c σ h2).bind fun z h4 => copF o2 y z h4) Q) ↔ Sat (evE G cf c σ h2) fun z h4 => OK (copB o2 y z h4) fun k => Q (.v (.bl k)) h4 := by
          rw [sat_bind]
          exact sat_congr e2
        rw [ok_some]
        exact e3.trans (by simp)
      | false => simp
  exact sat_congr fun x h1 => sat_congr fun y h2 => e x y h2
def IK (neg : Bool) (x : RV) (h : Hm) (Q : RV → Hm → Prop) : Prop := match x with
  | .v .non => Q (.v (.bl (!neg))) h
  | _ => Q (.v (.bl neg)) h
def isNon : D → Bool
  | .non => true
  | _ => false
@[simp] theorem isNon_non : isNon .non = true := rfl
@[simp] theorem isNon_int {i : Int} : isNon (.int i) = false := rfl
@[simp] theorem isNon_bl {i : Bool} : isNon (.bl i) = false := rfl
@[simp] theorem isNon_str {i : Tx} : isNon (.str i) = false := rfl
@[simp] theorem isNon_tup {i : List D} : isNon (.tup i) = false := rfl
@[simp] theorem isNon_ref {i : Nat} : isNon (.ref i) = false := rfl
@[simp] theorem ik_v {neg : Bool} {d : D} {Q : RV → Hm → Prop} : IK neg (.v d) h Q ↔ Q (.v (.bl (xor neg (isNon d)))) h := by
  cases d <;> cases neg <;> exact Iff.rfl
@[simp] theorem ik_l {neg : Bool} {xs : List D} {Q : RV → Hm → Prop} : IK neg (.l xs) h Q ↔ Q (.v (.bl neg)) h := Iff.rfl
@[simp] theorem w_isn {neg : Bool} {a : ME} : Sat (evE G cf (.isn neg a) σ h) Q ↔ Sat (evE G cf a σ h) fun x h1 => IK neg x h1 Q := by
  rw [evE, sat_bind]
  have e : ∀ (x : RV) (h1 : Hm), Sat (match x with | .v .non => ok1 (.bl (!neg)) h1 | _ => ok1 (.bl neg) h1) Q ↔ IK neg x h1 Q := by
    intro x h1
    cases x with
    | l _ => exact Iff.rfl
    | v d => cases d <;> exact Iff.rfl
  exact sat_congr e
@[simp] theorem w_and {a b : ME} : Sat (evE G cf (.and a b) σ h) Q ↔ Sat (evE G cf a σ h) fun x h1 => TK x (Sat (evE G cf b σ h1) Q) (Q (.v (.bl false)) h1) := by
  rw [evE, sat_bind]
  have e : ∀ (x : RV) (h1 : Hm), Sat (match x with | .v (.bl true) => evE G cf b σ h1 | .v (.bl false) => ok1 (.bl false) h1 | _ => .bad) Q ↔ TK x (Sat (evE G cf b σ h1) Q) (Q (.v (.bl false)) h1) := by
    intro x h1
    cases x with
    | l _ => exact Iff.rfl
    | v d =>
      cases d with
      | bl b => cases b <;> exact Iff.rfl
      | _ => exact Iff.rfl
  exact sat_congr e
@[simp] theorem w_or {a b : ME} : Sat (evE G cf (.or a b) σ h) Q ↔ Sat (evE G cf a σ h) fun x h1 => TK x (Q (.v (.bl true)) h1) (Sat (evE G cf b σ h1) Q) := by
  rw [evE, sat_bind]
  have e : ∀ (x : RV) (h1 : Hm), Sat (match x with | .v (.bl false) => evE G cf b σ h1 | .v (.bl true) => ok1 (.bl true) h1 | _ => .bad) Q ↔ TK x (Q (.v (.bl true)) h1) (Sat (evE G cf b σ h1) Q) := by
    intro x h1
    cases x with
    | l _ => exact Iff.rfl
    | v d =>
      cases d with
      | bl b => cases b <;> exact Iff.rfl
      | _ => exact Iff.rfl
  exact sat_congr e
def IK2 (x : RV) (A : Prop) (B : Int → Prop) : Prop := match x with
  | .v (.int i) => (i = 0 → A) ∧ (i ≠ 0 → B i)
  | _ => False
@[simp] theorem ik2_int {i : Int} {A : Prop} {B : Int → Prop} : IK2 (.v (.int i)) A B ↔ (i = 0 → A) ∧ (i ≠ 0 → B i) := Iff.rfl
@[simp] theorem w_orI {a b : ME} : Sat (evE G cf (.orI a b) σ h) Q ↔ Sat (evE G cf a σ h) fun x h1 => IK2 x (Sat (evE G cf b σ h1) Q) fun i => Q (.v (.int i)) h1 := by
  rw [evE, sat_bind]
  refine sat_congr fun x h1 => ?_
  cases x with
  | l _ => exact Iff.rfl
  | v d =>
    cases d with
    | int i =>
      show Sat (if i = 0 then evE G cf b σ h1 else ok1 (.int i) h1) Q ↔ _
      by_cases e : i = 0
      · rw [if_pos e]; simp [e]
      · rw [if_neg e]; simp [e]
    | _ => exact Iff.rfl
@[simp] theorem w_not {a : ME} : Sat (evE G cf (.not a) σ h) Q ↔ Sat (evE G cf a σ h) fun x h1 => TK x (Q (.v (.bl false)) h1) (Q (.v (.bl true)) h1) := by
  rw [evE, sat_bind]
  have e : ∀ (x : RV) (h1 : Hm), Sat (match x with | .v (.bl b) => ok1 (.bl (!b)) h1 | _ => .bad) Q ↔ TK x (Q (.v (.bl false)) h1) (Q (.v (.bl true)) h1) := by
    intro x h1
    cases x with
    | l _ => exact Iff.rfl
    | v d =>
      cases d with
      | bl b => cases b <;> exact Iff.rfl
      | _ => exact Iff.rfl
  exact sat_congr e
@[simp] theorem w_ite {c a b : ME} : Sat (evE G cf (.ite c a b) σ h) Q ↔ Sat (evE G cf c σ h) fun x h1 => TK x (Sat (evE G cf a σ h1) Q) (Sat (evE G cf b σ h1) Q) := by
  rw [evE, sat_bind]
  have e : ∀ (x : RV) (h1 : Hm), Sat (match x with | .v (.bl true) => evE G cf a σ h1 | .v (.bl false) => evE G cf b σ h1 | _ => .bad) Q ↔ TK x (Sat (evE G cf a σ h1) Q) (Sat (evE G cf b σ h1) Q) := by
    intro x h1
    cases x with
    | l _ => exact Iff.rfl
    | v d =>
      cases d with
      | bl b => cases b <;> exact Iff.rfl
      | _ => exact Iff.rfl
  exact sat_congr e
@[simp] theorem w_call {f : Nat} {as : MEs} : Sat (evE G cf (.call f as) σ h) Q ↔ Sat (evEs G cf as σ h) fun rs h1 => Sat (cf f (boxAll rs h1).1 (boxAll rs h1).2) fun d h2 => Q (.v d) h2 := by
  rw [evE]; simp only [sat_bind, sat_ok1]
@[simp] theorem w_fnv {f : Nat} : Sat (evE G cf (.fnv f) σ h) Q ↔ Q (.v (.fn f)) h := by rw [evE]; exact Iff.rfl
theorem w_callV {s f : Nat} {as : MEs} (e : σ[s]? = some (some (.fn f))) : Sat (evE G cf (.callV s as) σ h) Q ↔ Sat (evEs G cf as σ h) fun rs h1 => Sat (cf f (boxAll rs h1).1 (boxAll rs h1).2) fun d h2 => Q (.v d) h2 := by
  rw [evE, e]
  dsimp only
  rw [sat_bind]
  refine sat_congr fun rs h1 => ?_
  rw [sat_bind]
  exact sat_congr fun d h2 => Iff.rfl
@[simp] theorem w_blt {b : Blt} {as : MEs} : Sat (evE G cf (.blt b as) σ h) Q ↔ Sat (evEs G cf as σ h) fun rs h1 => Sat (bltF b rs h1) Q := by
  rw [evE]; simp only [sat_bind]
def tyR (h : Hm) : RV → Option Ty
  | .v d => tyOf h d
  | .l _ => some .list
def IsK (ts : List Ty) (x : RV) (h1 : Hm) (Q : RV → Hm → Prop) : Prop := match x with
  | .v d => match tyOf h1 d with
    | some t => Q (.v (.bl (ts.any (isTy t)))) h1
    | none => match d with
      | .non => Q (.v (.bl false)) h1
      | _ => False
  | .l _ => Q (.v (.bl (ts.any (isTy .list)))) h1
@[simp] theorem w_isin {a : ME} {ts : List Ty} : Sat (evE G cf (.isin a ts) σ h) Q ↔ Sat (evE G cf a σ h) fun x h1 => IsK ts x h1 Q := by
  rw [evE, sat_bind]
  have e : ∀ (x : RV) (h1 : Hm), Sat (match x with
      | .v d => match tyOf h1 d with
        | some t => ok1 (.bl (ts.any (isTy t))) h1
        | none => match d with
          | .non => ok1 (.bl false) h1
          | _ => .bad
      | .l _ => ok1 (.bl (ts.any (isTy .list))) h1) Q ↔ IsK ts x h1 Q := by
    intro x h1
    cases x with
    | l _ => exact Iff.rfl
    | v d =>
      unfold IsK
      dsimp only
      cases tyOf h1 d with
      | some t => exact Iff.rfl
      | none => cases d <;> exact Iff.rfl
  exact sat_congr e
@[simp] theorem isk_int {ts : List Ty} {i : Int} : IsK ts (.v (.int i)) h Q ↔ Q (.v (.bl (ts.any (isTy .int)))) h := Iff.rfl
@[simp] theorem isk_bl {ts : List Ty} {i : Bool} : IsK ts (.v (.bl i)) h Q ↔ Q (.v (.bl (ts.any (isTy .bool)))) h := Iff.rfl
@[simp] theorem isk_str {ts : List Ty} {i : Tx} : IsK ts (.v (.str i)) h Q ↔ Q (.v (.bl (ts.any (isTy .str)))) h := Iff.rfl
@[simp] theorem isk_tup {ts : List Ty} {i : List D} : IsK ts (.v (.tup i)) h Q ↔ Q (.v (.bl (ts.any (isTy .tuple)))) h := Iff.rfl
@[simp] theorem isk_non {ts : List Ty} : IsK ts (.v .non) h Q ↔ Q (.v (.bl false)) h := Iff.rfl
@[simp] theorem isk_l {ts : List Ty} {xs : List D} : IsK ts (.l xs) h Q ↔ Q (.v (.bl (ts.any (isTy .list)))) h := Iff.rfl
@[simp] theorem w_meth {m : Mth} {o : ME} {as : MEs} : Sat (evE G cf (.meth m o as) σ h) Q ↔ Sat (evE G cf o σ h) fun x h1 => mthTy m x h1 = true ∧ Sat (evEs G cf as σ h1) fun rs h2 => Sat (if m.keeps then mthF m x ((boxAll rs h2).1.map .v) (boxAll rs h2).2 else mthF m x rs h2) Q := by
  rw [evE]; simp only [sat_bind, sat_ite]
@[simp] theorem w_ix {a b : ME} : Sat (evE G cf (.ix a b) σ h) Q ↔ Sat (evE G cf a σ h) fun x h1 => Sat (evE G cf b σ h1) fun y h2 => Sat (ixF x y h2) Q := by
  rw [evE]; simp only [sat_bind]
@[simp] theorem w_sl {a : ME} {lo hi : MO} : Sat (evE G cf (.sl a lo hi) σ h) Q ↔ Sat (evE G cf a σ h) fun x h1 => Sat (evO G cf lo σ h1) fun l h2 => Sat (evO G cf hi σ h2) fun u h3 => Sat (slF x l u h3) Q := by
  rw [evE]; simp only [sat_bind]
@[simp] theorem w_slr {a : ME} : Sat (evE G cf (.slr a) σ h) Q ↔ Sat (evE G cf a σ h) fun x h1 => Sat (slrF x h1) Q := by
  rw [evE]; simp only [sat_bind]
@[simp] theorem w_lrev {a : ME} : Sat (evE G cf (.lrev a) σ h) Q ↔ Sat (evE G cf a σ h) fun x h1 => Sat (lrevF x h1) Q := by
  rw [evE]; simp only [sat_bind]
@[simp] theorem w_sl3 {a : ME} {lo hi st : MO} : Sat (evE G cf (.sl3 a lo hi st) σ h) Q ↔ Sat (evE G cf a σ h) fun x h1 => Sat (evO G cf lo σ h1) fun l h2 => Sat (evO G cf hi σ h2) fun u h3 => Sat (evO G cf st σ h3) fun z h4 => Sat (slF3 x l u z h4) Q := by
  rw [evE]; simp only [sat_bind]
@[simp] theorem w_dicN {as : MEs} : Sat (evE G cf (.dicN as) σ h) Q ↔ Sat (evEs G cf as σ (h ++ [.dic []])) fun rs h1 => Sat (dicNF h.length rs h1) Q := by
  rw [evE]; simp only [sat_bind]
@[simp] theorem w_tup {as : MEs} : Sat (evE G cf (.tup as) σ h) Q ↔ Sat (evEs G cf as σ h) fun rs h1 => Q (.v (.tup (boxAll rs h1).1)) (boxAll rs h1).2 := by
  rw [evE]; simp only [sat_bind, sat_ok1]
@[simp] theorem w_lst {as : MEs} : Sat (evE G cf (.lst as) σ h) Q ↔ Sat (evEs G cf as σ h) fun rs h1 => Q (.l (boxAll rs h1).1) (boxAll rs h1).2 := by
  rw [evE]; simp only [sat_bind, sat_ok]
@[simp] theorem w_dic {as bs : MEs} : Sat (evE G cf (.dic as bs) σ h) Q ↔ Q (.v (.ref h.length)) (h ++ [.dic []]) := by
  rw [evE]; exact Iff.rfl
noncomputable def stepE (elt : ME) (t : MT) (ifs : MEs) (own : List Nat) (σ : Env) : D → Hm → Res (Option D) := fun x h2 => match tgF t x (wipe σ own) with
      | some σ1 => (evTs G cf ifs σ1 h2).bind fun k h3 => match k with
        | true => (evE G cf elt σ1 h3).bind fun r h4 => .ok (some (r.box h4).1) (r.box h4).2
        | false => .ok none h3
      | none => .bad
@[simp] theorem w_comp {elt : ME} {t : MT} {it : MI} {ifs : MEs} {own : List Nat} : Sat (evE G cf (.comp elt t it ifs own) σ h) Q ↔ Sat (evI G cf it σ h) fun s h1 => Sat (compL (stepE (G := G) (cf := cf) elt t ifs own σ) s.conds s.items h1) fun ds h2 => Q (.l ds) h2 := by
  rw [evE]; simp only [sat_bind, sat_ok]
  rfl
@[simp] theorem w_esn {Q : List RV → Hm → Prop} : Sat (evEs G cf .nil σ h) Q ↔ Q [] h := by rw [evEs]; exact Iff.rfl
@[simp] theorem w_esc {a : ME} {r : MEs} {Q : List RV → Hm → Prop} : Sat (evEs G cf (.cons a r) σ h) Q ↔ Sat (evE G cf a σ h) fun x h1 => Sat (evEs G cf r σ h1) fun xs h2 => Q (x :: xs) h2 := by
  rw [evEs]; simp only [sat_bind, sat_ok]
@[simp] theorem w_tsn {Q : Bool → Hm → Prop} : Sat (evTs G cf .nil σ h) Q ↔ Q true h := by rw [evTs]; exact Iff.rfl
@[simp] theorem w_tsc {a : ME} {r : MEs} {Q : Bool → Hm → Prop} : Sat (evTs G cf (.cons a r) σ h) Q ↔ Sat (evE G cf a σ h) fun x h1 => TK x (Sat (evTs G cf r σ h1) Q) (Q false h1) := by
  rw [evTs, sat_bind]
  have e : ∀ (x : RV) (h1 : Hm), Sat (match x with | .v (.bl true) => evTs G cf r σ h1 | .v (.bl false) => .ok false h1 | _ => .bad) Q ↔ TK x (Sat (evTs G cf r σ h1) Q) (Q false h1) := by
    intro x h1
    cases x with
    | l _ => exact Iff.rfl
    | v d =>
      cases d with
      | bl b => cases b <;> exact Iff.rfl
      | _ => exact Iff.rfl
  exact sat_congr e
@[simp] theorem w_on {Q : Option Int → Hm → Prop} : Sat (evO G cf .non σ h) Q ↔ Q none h := by rw [evO]; exact Iff.rfl
def PK (x : RV) (h : Hm) (Q : Option Int → Hm → Prop) : Prop := match x with
  | .v (.int i) => Q (some i) h
  | _ => False
@[simp] theorem pk_int {i : Int} {Q : Option Int → Hm → Prop} : PK (.v (.int i)) h Q ↔ Q (some i) h := Iff.rfl
@[simp] theorem w_os {e : ME} {Q : Option Int → Hm → Prop} : Sat (evO G cf (.som e) σ h) Q ↔ Sat (evE G cf e σ h) fun x h1 => PK x h1 Q := by
  rw [evO, sat_bind]
  have e : ∀ (x : RV) (h1 : Hm), Sat (match x with | .v (.int i) => .ok (some i) h1 | _ => .bad) Q ↔ PK x h1 Q := by
    intro x h1
    cases x with
    | l _ => exact Iff.rfl
    | v d => cases d <;> exact Iff.rfl
  exact sat_congr e
theorem sat_opt {α β : Type} {o : Option α} {g : α → Res β} {Q : β → Hm → Prop} : Sat (match o with | some s => g s | none => .bad) Q ↔ OK o fun s => Sat (g s) Q := by cases o <;> exact Iff.rfl
@[simp] theorem w_seq {e : ME} {Q : Src → Hm → Prop} : Sat (evI G cf (.seq e) σ h) Q ↔ Sat (evE G cf e σ h) fun x h1 => OK (srcOf x h1) fun s => Q s h1 := by
  rw [evI, sat_bind]; exact sat_congr fun x h1 => by cases srcOf x h1 <;> exact Iff.rfl
@[simp] theorem w_rng {as : MEs} {Q : Src → Hm → Prop} : Sat (evI G cf (.rng as) σ h) Q ↔ Sat (evEs G cf as σ h) fun rs h1 => OK (rngOf rs) fun s => Q s h1 := by
  rw [evI, sat_bind]; exact sat_congr fun x h1 => by cases rngOf x <;> exact Iff.rfl
@[simp] theorem w_enum {e : ME} {Q : Src → Hm → Prop} : Sat (evI G cf (.enum e) σ h) Q ↔ Sat (evE G cf e σ h) fun x h1 => OK (srcL x h1) fun s => s.items.length ≤ SL ∧ Q ⟨numbered 0 s.items, s.conds⟩ h1 := by
  rw [evI, sat_bind]; exact sat_congr fun x h1 => by cases srcL x h1 with | none => exact Iff.rfl | some s => exact sat_ite
@[simp] theorem w_rev {e : ME} {Q : Src → Hm → Prop} : Sat (evI G cf (.rev e) σ h) Q ↔ Sat (evE G cf e σ h) fun x h1 => OK (srcL x h1) fun s => s.items.length ≤ SL ∧ Q ⟨s.items.reverse, s.conds⟩ h1 := by
  rw [evI, sat_bind]; exact sat_congr fun x h1 => by cases srcL x h1 with | none => exact Iff.rfl | some s => exact sat_ite
@[simp] theorem w_zipT {a b : ME} {Q : Src → Hm → Prop} : Sat (evI G cf (.zipT a b) σ h) Q ↔ Sat (evE G cf a σ h) fun x h1 => Sat (evE G cf b σ h1) fun y h2 => OK (srcT x) fun xs => OK (srcT y) fun ys => xs.length ≤ SL ∧ Q ⟨pairsUp xs ys, []⟩ h2 := by
  rw [evI, sat_bind]; simp only [sat_bind]
  have e : ∀ (x y : RV) (h2 : Hm), Sat (match srcT x, srcT y with
      | some xs, some ys => if xs.length ≤ SL then .ok ⟨pairsUp xs ys, []⟩ h2 else .bad
      | _, _ => .bad) Q ↔ OK (srcT x) fun xs => OK (srcT y) fun ys => xs.length ≤ SL ∧ Q ⟨pairsUp xs ys, []⟩ h2 := by
    intro x y h2
    cases srcT x with
    | none => exact Iff.rfl
    | some s =>
      cases srcT y with
      | none => exact Iff.rfl
      | some t => exact sat_ite
  exact sat_congr fun x h1 => sat_congr fun y h2 => e x y h2
@[simp] theorem srcT_tup (xs : List D) : srcT (.v (.tup xs)) = some xs := rfl
@[simp] theorem w_zip {a b : ME} {Q : Src → Hm → Prop} : Sat (evI G cf (.zip a b) σ h) Q ↔ Sat (evE G cf a σ h) fun x h1 => Sat (evE G cf b σ h1) fun y h2 => OK (srcL x h2) fun s => OK (srcL y h2) fun t => s.items.length ≤ SL ∧ Q ⟨pairsUp s.items t.items, s.conds ++ t.conds⟩ h2 := by
  rw [evI, sat_bind]; simp only [sat_bind]
  have e : ∀ (x y : RV) (h2 : Hm), Sat (match srcL x h2, srcL y h2 with
      | some s, some t => if s.items.length ≤ SL then .ok ⟨pairsUp s.items t.items, s.conds ++ t.conds⟩ h2 else .bad
      | _, _ => .bad) Q ↔ OK (srcL x h2) fun s => OK (srcL y h2) fun t => s.items.length ≤ SL ∧ Q ⟨pairsUp s.items t.items, s.conds ++ t.conds⟩ h2 := by
    intro x y h2
    cases srcL x h2 with
    | none => exact Iff.rfl
    | some s =>
      cases srcL y h2 with
      | none => exact Iff.rfl
      | some t => simp only [sat_ite, ok_some, sat_ok]
  exact sat_congr fun x h1 => sat_congr fun y h2 => e x y h2
end
/-! ### statements -/
section
variable {G : Nat → D} {cf : Nat → List D → Hm → Res D} {σ : Env} {h : Hm} {Q : Out → Hm → Prop}
@[simp] theorem w_set {t : Nat} {e : ME} : Sat (evS G cf (.set t e) σ h) Q ↔ Sat (evE G cf e σ h) fun r h1 => Q (.nx (σ.set t (some (r.box h1).1))) (r.box h1).2 := by
  rw [evS]; simp only [sat_bind, sat_ok]
def TpK (r : RV) (h : Hm) (Q : List D → Prop) : Prop := OK (tpOf r h) Q
@[simp] theorem tpk_tup {ds : List D} {Q : List D → Prop} : TpK (.v (.tup ds)) h Q ↔ Q ds := Iff.rfl
@[simp] theorem tpk_l {ds : List D} {Q : List D → Prop} : TpK (.l ds) h Q ↔ Q ds := Iff.rfl
@[simp] theorem tpk_fz {ds : List D} {Q : List D → Prop} : TpK (.v (.fz ds)) h Q ↔ Q ds := Iff.rfl
@[simp] theorem w_setT {ts : List Nat} {e : ME} : Sat (evS G cf (.setT ts e) σ h) Q ↔ Sat (evE G cf e σ h) fun r h1 => TpK r h1 fun ds => OK (setSlots σ ts ds) fun σ1 => Q (.nx σ1) h1 := by
  rw [evS, sat_bind]
  refine sat_congr fun r h1 => ?_
  unfold TpK
  cases tpOf r h1 with
  | none => exact Iff.rfl
  | some ds =>
    dsimp only
    rw [ok_some]
    cases setSlots σ ts ds <;> exact Iff.rfl
@[simp] theorem w_setI {o i e : ME} : Sat (evS G cf (.setI o i e) σ h) Q ↔ Sat (evE G cf e σ h) fun r h1 => Sat (evE G cf o σ (r.box h1).2) fun x h2 => Sat (evE G cf i σ h2) fun y h3 => OK (setItF x y (r.box h1).1 h3) fun h4 => Q (.nx σ) h4 := by
  rw [evS]; simp only [sat_bind]; exact sat_congr fun r h1 => sat_congr fun x h2 => sat_congr fun y h3 => by cases setItF x y (r.box h1).1 h3 <;> exact Iff.rfl
@[simp] theorem w_expr {e : ME} : Sat (evS G cf (.expr e) σ h) Q ↔ Sat (evE G cf e σ h) fun _ h1 => Q (.nx σ) h1 := by
  rw [evS]; simp only [sat_bind, sat_ok]
@[simp] theorem w_sif {c : ME} {a b : MSs} : Sat (evS G cf (.ite c a b) σ h) Q ↔ Sat (evE G cf c σ h) fun x h1 => TK x (Sat (evSs G cf a σ h1) Q) (Sat (evSs G cf b σ h1) Q) := by
  rw [evS, sat_bind]
  have e : ∀ (x : RV) (h1 : Hm), Sat (match x with | .v (.bl true) => evSs G cf a σ h1 | .v (.bl false) => evSs G cf b σ h1 | _ => .bad) Q ↔ TK x (Sat (evSs G cf a σ h1) Q) (Sat (evSs G cf b σ h1) Q) := by
    intro x h1
    cases x with
    | l _ => exact Iff.rfl
    | v d =>
      cases d with
      | bl b => cases b <;> exact Iff.rfl
      | _ => exact Iff.rfl
  exact sat_congr e
@[simp] theorem w_for {t : MT} {it : MI} {b : MSs} : Sat (evS G cf (.for t it b) σ h) Q ↔ Sat (evI G cf it σ h) fun s h1 => Sat (forL (tgF t) (evSs G cf b) s.conds s.items σ h1) Q := by
  rw [evS]; simp only [sat_bind]
@[simp] theorem w_while {c : ME} {b : MSs} : Sat (evS G cf (.while c b) σ h) Q ↔ Sat (whileL (evE G cf c) (evSs G cf b) FUEL σ h) Q := by
  rw [evS]
@[simp] theorem w_ret {e : ME} : Sat (evS G cf (.ret e) σ h) Q ↔ Sat (evE G cf e σ h) fun r h1 => Q (.rt (r.box h1).1) (r.box h1).2 := by
  rw [evS]; simp only [sat_bind, sat_ok]
@[simp] theorem w_retN : Sat (evS G cf .retN σ h) Q ↔ Q (.rt .non) h := by rw [evS]; exact Iff.rfl
@[simp] theorem w_brk : Sat (evS G cf .brk σ h) Q ↔ Q (.bk σ) h := by rw [evS]; exact Iff.rfl
@[simp] theorem w_pass : Sat (evS G cf .pass σ h) Q ↔ Q (.nx σ) h := by rw [evS]; exact Iff.rfl
@[simp] theorem w_cont : Sat (evS G cf .cont σ h) Q ↔ Q (.ct σ) h := by rw [evS]; exact Iff.rfl
def SK (o : Out) (A : Env → Prop) (B : Out → Prop) : Prop := match o with
  | .nx σ => A σ
  | o => B o
@[simp] theorem sk_nx {σ : Env} {A : Env → Prop} {B : Out → Prop} : SK (.nx σ) A B ↔ A σ := Iff.rfl
@[simp] theorem sk_rt {d : D} {A : Env → Prop} {B : Out → Prop} : SK (.rt d) A B ↔ B (.rt d) := Iff.rfl
@[simp] theorem sk_bk {σ : Env} {A : Env → Prop} {B : Out → Prop} : SK (.bk σ) A B ↔ B (.bk σ) := Iff.rfl
@[simp] theorem sk_ct {σ : Env} {A : Env → Prop} {B : Out → Prop} : SK (.ct σ) A B ↔ B (.ct σ) := Iff.rfl
@[simp] theorem w_nil : Sat (evSs G cf .nil σ h) Q ↔ Q (.nx σ) h := by rw [evSs]; exact Iff.rfl
theorem w_cons {a : MS} {r : MSs} : Sat (evSs G cf (.cons a r) σ h) Q ↔ Sat (evS G cf a σ h) fun o h1 => SK o (fun σ1 => Sat (evSs G cf r σ1 h1) Q) fun o => Q o h1 := by
  rw [evSs, sat_bind]
  have e : ∀ (o : Out) (h1 : Hm), Sat (match o with | .nx σ1 => evSs G cf r σ1 h1 | o => .ok o h1) Q ↔ SK o (fun σ1 => Sat (evSs G cf r σ1 h1) Q) fun o => Q o h1 := by
    intro o h1
    cases o <;> exact Iff.rfl
  exact sat_congr e
/-- one statement, then the rest -/
theorem sat_seq {a : MS} {r : MSs} (Mid : Env → Hm → Prop) (x : Sat (evS G cf a σ h) fun o h1 => SK o (fun σ1 => Mid σ1 h1) fun o => Q o h1) (y : ∀ σ1 h1, Mid σ1 h1 → Sat (evSs G cf r σ1 h1) Q) : Sat (evSs G cf (.cons a r) σ h) Q := by
  rw [w_cons]
  refine x.mono fun o h1 z => ?_
  cases o with
  | nx σ1 => exact y σ1 h1 z
  | _ => exact z
theorem w_one {a : MS} : Sat (evSs G cf (.cons a .nil) σ h) Q ↔ Sat (evS G cf a σ h) Q := by
  rw [w_cons]
  refine sat_congr fun o h1 => ?_
  cases o <;> simp
@[simp] theorem w_retsk {e : ME} {A : Env → Hm → Prop} {B : Out → Hm → Prop} : Sat (evSs G cf (.cons (.ret e) .nil) σ h) (fun o h1 => SK o (fun σ1 => A σ1 h1) fun o => B o h1) ↔ Sat (evSs G cf (.cons (.ret e) .nil) σ h) B := by
  rw [w_one, w_one, w_ret, w_ret]
  exact sat_congr fun r h1 => Iff.rfl
@[simp] theorem w_retbl {b : Bool} : Sat (evSs G cf (.cons (.ret (.bl b)) .nil) σ h) Q ↔ Q (.rt (.bl b)) h := by
  rw [w_one]; simp
  show Q (.rt ((RV.v (.bl b)).box h).1) ((RV.v (.bl b)).box h).2 ↔ _
  exact Iff.rfl
/-! ### loops -/
def LK (o : Out) (A : Env → Prop) (B : Env → Prop) (R : D → Prop) : Prop := match o with
  | .nx σ => A σ
  | .ct σ => A σ
  | .bk σ => B σ
  | .rt d => R d
@[simp] theorem lk_nx {σ : Env} {A B : Env → Prop} {R : D → Prop} : LK (.nx σ) A B R ↔ A σ := Iff.rfl
@[simp] theorem lk_ct {σ : Env} {A B : Env → Prop} {R : D → Prop} : LK (.ct σ) A B R ↔ A σ := Iff.rfl
@[simp] theorem lk_bk {σ : Env} {A B : Env → Prop} {R : D → Prop} : LK (.bk σ) A B R ↔ B σ := Iff.rfl
@[simp] theorem lk_rt {d : D} {A B : Env → Prop} {R : D → Prop} : LK (.rt d) A B R ↔ R d := Iff.rfl
theorem hc_nil {h : Hm} : HC [] h := fun _ m => by cases m
/-- a loop: I by what is walked and what is left -/
theorem sat_for {tg : D → Env → Option Env} {body : Env → Hm → Res Out} {cs : List (Nat × O)} (I : List D → List D → Env → Hm → Prop)
    (step : ∀ pre x post σ h, I pre (x :: post) σ h → HC cs h ∧ OK (tg x σ) fun σ1 => Sat (body σ1 h) fun o h2 => LK o (fun σ2 => I (pre ++ [x]) post σ2 h2) (fun σ2 => Q (.nx σ2) h2) fun d => Q (.rt d) h2)
    (fin : ∀ pre σ h, I pre [] σ h → HC cs h ∧ Q (.nx σ) h) : ∀ (xs pre : List D) (σ : Env) (h : Hm), I pre xs σ h → Sat (forL tg body cs xs σ h) Q
  | [], pre, σ, h, i => by
    obtain ⟨hc, q⟩ := fin pre σ h i
    unfold forL
    rw [if_pos hc]
    exact q
  | x :: xs, pre, σ, h, i => by
    obtain ⟨hc, q⟩ := step pre x xs σ h i
    unfold forL
    rw [if_pos hc]
    cases e : tg x σ with
    | none => rw [e] at q; exact q.elim
    | some σ1 =>
      rw [e] at q
      dsimp only
      obtain ⟨o, h2, e2, q2⟩ := Sat.ex (show Sat (body σ1 h) _ from q)
      rw [e2]
      cases o with
      | nx σ2 => exact sat_for I step fin xs (pre ++ [x]) σ2 h2 q2
      | ct σ2 => exact sat_for I step fin xs (pre ++ [x]) σ2 h2 q2
      | bk σ2 => exact q2
      | rt d => exact q2
theorem sat_comp {step : D → Hm → Res (Option D)} {cs : List (Nat × O)} {Q : List D → Hm → Prop} (I : List D → List D → List D → Hm → Prop)
    (st : ∀ pre x post acc h, I pre (x :: post) acc h → HC cs h ∧ Sat (step x h) fun r h2 => I (pre ++ [x]) post (acc ++ r.toList) h2)
    (fin : ∀ pre acc h, I pre [] acc h → HC cs h ∧ Q acc h) : ∀ (xs pre acc : List D) (h : Hm), I pre xs acc h → Sat (compL step cs xs h) fun ds h2 => Q (acc ++ ds) h2
  | [], pre, acc, h, i => by
    obtain ⟨hc, q⟩ := fin pre acc h i
    unfold compL
    rw [if_pos hc]
    show Q (acc ++ []) h
    rw [List.append_nil]
    exact q
  | x :: xs, pre, acc, h, i => by
    obtain ⟨hc, q⟩ := st pre x xs acc h i
    unfold compL
    rw [if_pos hc]
    obtain ⟨r, h2, e2, q2⟩ := q.ex
    rw [e2]
    dsimp only
    obtain ⟨ds, h3, e3, q3⟩ := (sat_comp I st fin xs (pre ++ [x]) (acc ++ r.toList) h2 q2).ex
    rw [e3]
    show Q (acc ++ (r.toList ++ ds)) h3
    rw [← List.append_assoc]
    exact q3
theorem sat_while {c : Env → Hm → Res RV} {body : Env → Hm → Res Out} (I : Nat → Env → Hm → Prop)
    (step : ∀ m σ h, I m σ h → Sat (c σ h) fun x h1 => TK x (Sat (body σ h1) fun o h2 => LK o (fun σ2 => ∃ m', m' < m ∧ I m' σ2 h2) (fun σ2 => Q (.nx σ2) h2) fun d => Q (.rt d) h2) (Q (.nx σ) h1)) :
    ∀ (f m : Nat) (σ : Env) (h : Hm), m < f → I m σ h → Sat (whileL c body f σ h) Q
  | 0, m, σ, h, l, _ => by omega
  | f + 1, m, σ, h, l, i => by
    have q := step m σ h i
    unfold whileL
    obtain ⟨x, h1, e1, q1⟩ := q.ex
    rw [e1]
    cases x with
    | l _ => exact q1.elim
    | v d =>
      cases d with
      | bl b =>
        cases b with
        | false => exact q1
        | true =>
          dsimp only
          obtain ⟨o, h2, e2, q2⟩ := Sat.ex (show Sat (body σ h1) _ from q1)
          rw [e2]
          cases o with
          | nx σ2 => obtain ⟨m', lm, i'⟩ := q2; exact sat_while I step f m' σ2 h2 (by omega) i'
          | ct σ2 => obtain ⟨m', lm, i'⟩ := q2; exact sat_while I step f m' σ2 h2 (by omega) i'
          | bk σ2 => exact q2
          | rt d => exact q2
      | _ => exact q1.elim
end
/-! ### calls -/
/-- how a body ends -/
def EK (o : Out) (Q : D → Prop) : Prop := match o with
  | .nx _ => Q .non
  | .rt d => Q d
  | _ => False
@[simp] theorem ek_nx {σ : Env} {Q : D → Prop} : EK (.nx σ) Q ↔ Q .non := Iff.rfl
@[simp] theorem ek_rt {d : D} {Q : D → Prop} : EK (.rt d) Q ↔ Q d := Iff.rfl
@[simp] theorem ek_bk {σ : Env} {Q : D → Prop} : EK (.bk σ) Q ↔ False := Iff.rfl
@[simp] theorem ek_ct {σ : Env} {Q : D → Prop} : EK (.ct σ) Q ↔ False := Iff.rfl
theorem sat_callG {t : Nat → List D → Hm → Res D} {P : Pg} {k f : Nat} {F : Fd} {ds : List D} {h : Hm} {Q : D → Hm → Prop} (e : P.fns[f]? = some F) (hl : ds.length = F.np)
    (b : Sat (evSs P.G (callG t P k) F.body (startE F.n ds) h) fun o h' => EK o fun d => Sat (gcR h (.ok d h')) Q) : Sat (callG t P (k + 1) f ds h) Q := by
  unfold callG
  rw [e]
  dsimp only
  rw [if_pos hl]
  obtain ⟨o, h', e2, q⟩ := b.ex
  rw [e2]
  cases o with
  | nx σ => exact q
  | rt d => exact q
  | bk σ => exact q.elim
  | ct σ => exact q.elim
/-- what may lie over the old heap: nothing of it is changed -/
def Over (h h' : Hm) : Prop := h.length ≤ h'.length ∧ h'.take h.length = h
theorem Over.refl {h : Hm} : Over h h := ⟨Nat.le_refl _, List.take_length⟩
theorem Over.app {h t : Hm} : Over h (h ++ t) := ⟨by simp, by simp⟩
theorem Over.get {h h' : Hm} (o : Over h h') {i : Nat} (hi : i < h.length) : h'[i]? = h[i]? := by
  have := congrArg (·[i]?) o.2
  simp only [List.getElem?_take_of_lt hi] at this
  exact this
theorem Over.stable {h h' : Hm} (o : Over h h') : Stable h h' := ⟨o.1, fun i hi => .inl (o.get hi)⟩
theorem Over.trans {h h1 h2 : Hm} (a : Over h h1) (b : Over h1 h2) : Over h h2 := by
  refine ⟨Nat.le_trans a.1 b.1, ?_⟩
  have := congrArg (List.take h.length) b.2
  rw [a.2, List.take_take, Nat.min_eq_left a.1] at this
  exact this
theorem gcR_st {h h' : Hm} {d : D} (st : Stable h h') : gcR h (.ok d h') = gcOk h d h' := by
  unfold gcR
  exact if_pos st
theorem gc_over {h h' : Hm} {d : D} (o : Over h h') (c : d.cl h.length = true) : gcR h (.ok d h') = .ok d h := by
  rw [gcR_st o.stable]
  unfold gcOk
  rw [if_pos c, o.2]
/-- a call that changes nothing that was there and gives a value that stands by itself -/
theorem sat_call {t : Nat → List D → Hm → Res D} {P : Pg} {k f : Nat} {F : Fd} {ds : List D} {h : Hm} {Q : D → Hm → Prop} (e : P.fns[f]? = some F) (hl : ds.length = F.np)
    (b : Sat (evSs P.G (callG t P k) F.body (startE F.n ds) h) fun o h' => EK o fun d => Over h h' ∧ d.cl h.length = true ∧ Q d h) : Sat (callG t P (k + 1) f ds h) Q := by
  refine sat_callG e hl (b.mono fun o h' q => ?_)
  cases o with
  | nx σ => obtain ⟨q1, q2, q3⟩ := q; show Sat (gcR h (.ok .non h')) Q; rw [gc_over q1 q2]; exact q3
  | rt d => obtain ⟨q1, q2, q3⟩ := q; show Sat (gcR h (.ok d h')) Q; rw [gc_over q1 q2]; exact q3
  | bk σ => exact q
  | ct σ => exact q
end MP

/-! MW2: what operators, subscripts, built-ins, methods give, by rules. -/
namespace MP
open PySem
section
variable {h : Hm} {Q : RV → Hm → Prop}
@[simp] theorem box_v {d : D} : (RV.v d).box h = (d, h) := rfl
@[simp] theorem box_l {xs : List D} : (RV.l xs).box h = (.ref h.length, h ++ [.lst xs]) := rfl
@[simp] theorem boxAll_nil : boxAll [] h = ([], h) := rfl
@[simp] theorem boxAll_v {d : D} {rs : List RV} : boxAll (.v d :: rs) h = (d :: (boxAll rs h).1, (boxAll rs h).2) := rfl
@[simp] theorem boxAll_l {xs : List D} {rs : List RV} : boxAll (.l xs :: rs) h = (.ref h.length :: (boxAll rs (h ++ [.lst xs])).1, (boxAll rs (h ++ [.lst xs])).2) := rfl
@[simp] theorem w_add {i j : Int} : Sat (bopF .add (.v (.int i)) (.v (.int j)) h) Q ↔ Q (.v (.int (i + j))) h := Iff.rfl
@[simp] theorem w_sub {i j : Int} : Sat (bopF .sub (.v (.int i)) (.v (.int j)) h) Q ↔ Q (.v (.int (i - j))) h := Iff.rfl
@[simp] theorem w_mul {i j : Int} : Sat (bopF .mul (.v (.int i)) (.v (.int j)) h) Q ↔ mulOk i j = true ∧ Q (.v (.int (i * j))) h := sat_ite
@[simp] theorem w_fdiv {i j : Int} : Sat (bopF .fdiv (.v (.int i)) (.v (.int j)) h) Q ↔ divOk j = true ∧ Q (.v (.int (i / j))) h := sat_ite
@[simp] theorem w_mod {i j : Int} : Sat (bopF .mod (.v (.int i)) (.v (.int j)) h) Q ↔ 0 < j ∧ Q (.v (.int (i % j))) h := sat_ite
@[simp] theorem w_pow {i j : Int} : Sat (bopF .pow (.v (.int i)) (.v (.int j)) h) Q ↔ powOk i j = true ∧ Q (.v (.int (i ^ j.toNat))) h := sat_ite
@[simp] theorem w_adds {x y : Tx} : Sat (bopF .add (.v (.str x)) (.v (.str y)) h) Q ↔ x.length + y.length ≤ SL ∧ Q (.v (.str (x ++ y))) h := sat_ite
@[simp] theorem w_addt {x y : List D} : Sat (bopF .add (.v (.tup x)) (.v (.tup y)) h) Q ↔ x.length + y.length ≤ SL ∧ Q (.v (.tup (x ++ y))) h := sat_ite
@[simp] theorem w_muls {x : Tx} {n : Int} : Sat (bopF .mul (.v (.str x)) (.v (.int n)) h) Q ↔ (x.length * n.toNat ≤ SL ∧ n.toNat ≤ SL ∧ -(2 ^ 62) ≤ n) ∧ Q (.v (.str (rep x n.toNat))) h := sat_ite
@[simp] theorem w_mult {x : List D} {n : Int} : Sat (bopF .mul (.v (.tup x)) (.v (.int n)) h) Q ↔ (x.length ≤ 1000 ∧ -1000 ≤ n ∧ n ≤ 1000) ∧ Q (.v (.tup (rep x n.toNat))) h := sat_ite
theorem m_lower {x : Tx} (l : x.length ≤ 5592405) (q : Q (.v (.str (lowT x))) h) : Sat (mthF .lower (.v (.str x)) [] h) Q := by
  show Sat (if x.length ≤ 5592405 then ok1 (.str (lowT x)) h else .bad) Q
  rw [if_pos l]
  exact q
@[simp] theorem b_strI {i : Int} : Sat (bltF .str [.v (.int i)] h) Q ↔ i.natAbs.log2 < 1920 ∧ Q (.v (.str (numT i))) h := sat_ite
@[simp] theorem b_strB {b : Bool} : Sat (bltF .str [.v (.bl b)] h) Q ↔ Q (.v (.str (if b then [84, 114, 117, 101] else [70, 97, 108, 115, 101]))) h := Iff.rfl
@[simp] theorem b_strS {x : Tx} : Sat (bltF .str [.v (.str x)] h) Q ↔ Q (.v (.str x)) h := Iff.rfl
theorem b_intS {x : Tx} {n : Int} (e : PySem.intText? ⟨x.toArray⟩ = some n) (l : x.length ≤ 640) (q : Q (.v (.int n)) h) : Sat (bltF .int [.v (.str x)] h) Q := by
  show Sat (if x.length ≤ 640 then (match PySem.intText? ⟨x.toArray⟩ with | some n => ok1 (.int n) h | none => .bad) else .bad) Q
  rw [if_pos l, e]
  exact q
@[simp] theorem w_mull {x : List D} {n : Int} : Sat (bopF .mul (.l x) (.v (.int n)) h) Q ↔ (x.length ≤ 1000 ∧ -1000 ≤ n ∧ n ≤ 1000) ∧ Q (.l (rep x n.toNat)) h := sat_ite
@[simp] theorem w_addll {x y : List D} : Sat (bopF .add (.l x) (.l y) h) Q ↔ x.length + y.length ≤ SL ∧ Q (.l (x ++ y)) h := sat_ite
/-- what stands at a number -/
def hAt (h : Hm) (n : Nat) : Option O := h[n]?
theorem hAt_lt {n : Nat} {o : O} (e : hAt h n = some o) : n < h.length := (List.getElem?_eq_some_iff.mp e).1
@[simp] theorem hAt_set {n : Nat} {o : O} (l : n < h.length) : hAt (h.set n o) n = some o := List.getElem?_set_self l
@[simp] theorem hAt_ne {n m : Nat} {o : O} (l : m ≠ n) : hAt (h.set m o) n = hAt h n := List.getElem?_set_ne l
@[simp] theorem hAt_last {o : O} : hAt (h ++ [o]) h.length = some o := by unfold hAt; simp
@[simp] theorem hAt_app {n : Nat} {t : Hm} (l : n < h.length) : hAt (h ++ t) n = hAt h n := List.getElem?_append_left l
def HK (o : Option O) (A : List D → Prop) (B : List (D × D) → Prop) : Prop := match o with
  | some (.lst xs) => A xs
  | some (.dic kvs) => B kvs
  | _ => False
@[simp] theorem hk_lst {xs : List D} {A : List D → Prop} {B : List (D × D) → Prop} : HK (some (.lst xs)) A B ↔ A xs := Iff.rfl
@[simp] theorem hk_dic {xs : List (D × D)} {A : List D → Prop} {B : List (D × D) → Prop} : HK (some (.dic xs)) A B ↔ B xs := Iff.rfl
/-- .. where a walked dict is read as a dict -/
def HR (o : Option O) (A : List D → Prop) (B F : List (D × D) → Prop) : Prop := match o with
  | some (.lst xs) => A xs
  | some (.dic kvs) => B kvs
  | some (.fdc kvs) => F kvs
  | _ => False
@[simp] theorem hr_lst {xs : List D} {A : List D → Prop} {B F : List (D × D) → Prop} : HR (some (.lst xs)) A B F ↔ A xs := Iff.rfl
@[simp] theorem hr_dic {xs : List (D × D)} {A : List D → Prop} {B F : List (D × D) → Prop} : HR (some (.dic xs)) A B F ↔ B xs := Iff.rfl
@[simp] theorem hr_fdc {xs : List (D × D)} {A : List D → Prop} {B F : List (D × D) → Prop} : HR (some (.fdc xs)) A B F ↔ F xs := Iff.rfl
@[simp] theorem w_addrl {n : Nat} {y : List D} : Sat (bopF .add (.v (.ref n)) (.l y) h) Q ↔ HK (hAt h n) (fun x => x.length + y.length ≤ SL ∧ Q (.l (x ++ y)) h) fun _ => False := by
  unfold hAt
  show Sat (match listAt h n, some y with
    | some xs, some ys => if xs.length + ys.length ≤ SL then .ok (.l (xs ++ ys)) h else .bad
    | _, _ => .bad) Q ↔ _
  unfold listAt
  cases h[n]? with
  | none => exact Iff.rfl
  | some o =>
    cases o with
    | lst xs => exact sat_ite
    | _ => exact Iff.rfl
@[simp] theorem w_addrr {n m : Nat} : Sat (bopF .add (.v (.ref n)) (.v (.ref m)) h) Q ↔ HK (hAt h n) (fun x => HK (hAt h m) (fun y => x.length + y.length ≤ SL ∧ Q (.l (x ++ y)) h) fun _ => False) fun _ => False := by
  unfold hAt
  show Sat (match listAt h n, listAt h m with
    | some xs, some ys => if xs.length + ys.length ≤ SL then .ok (.l (xs ++ ys)) h else .bad
    | _, _ => .bad) Q ↔ _
  unfold listAt
  cases h[n]? with
  | none => exact Iff.rfl
  | some o =>
    cases o with
    | lst xs =>
      cases h[m]? with
      | none => exact Iff.rfl
      | some o =>
        cases o with
        | lst ys => exact sat_ite
        | _ => exact Iff.rfl
    | _ => exact Iff.rfl
/-! ### comparisons -/
variable {C : Bool → Prop}
theorem eqv_int {i j : Int} : PyData.eqv (.int i) (.int j) = decide (i = j) := by
  unfold PyData.eqv
  by_cases e : i = j
  · subst e; simp
  · simp [e]
@[simp] theorem c_eqi {i j : Int} : copB .eq (.v (.int i)) (.v (.int j)) h = some (decide (i = j)) := by
  show some (PyData.eqv (.int i) (.int j)) = _
  rw [eqv_int]
@[simp] theorem c_nei {i j : Int} : copB .ne (.v (.int i)) (.v (.int j)) h = some (!decide (i = j)) := by
  show some (!PyData.eqv (.int i) (.int j)) = _
  rw [eqv_int]
@[simp] theorem c_lti {i j : Int} : copB .lt (.v (.int i)) (.v (.int j)) h = some (decide (i < j)) := rfl
@[simp] theorem c_lei {i j : Int} : copB .le (.v (.int i)) (.v (.int j)) h = some (decide (i ≤ j)) := rfl
@[simp] theorem c_gti {i j : Int} : copB .gt (.v (.int i)) (.v (.int j)) h = some (decide (j < i)) := rfl
@[simp] theorem c_gei {i j : Int} : copB .ge (.v (.int i)) (.v (.int j)) h = some (decide (j ≤ i)) := rfl
@[simp] theorem c_eqb {i j : Bool} : copB .eq (.v (.bl i)) (.v (.bl j)) h = some (decide (i = j)) := by
  cases i <;> cases j <;> rfl
@[simp] theorem c_neb {i j : Bool} : copB .ne (.v (.bl i)) (.v (.bl j)) h = some (!decide (i = j)) := by
  cases i <;> cases j <;> rfl
@[simp] theorem c_eqfe {xs : List D} : copB .eq (.v (.fz xs)) (.l []) h = some xs.isEmpty := rfl
@[simp] theorem c_nefe {xs : List D} : copB .ne (.v (.fz xs)) (.l []) h = some (!xs.isEmpty) := rfl
@[simp] theorem c_eqle {xs : List D} : copB .eq (.l xs) (.l []) h = some xs.isEmpty := rfl
@[simp] theorem c_nele {xs : List D} : copB .ne (.l xs) (.l []) h = some (!xs.isEmpty) := rfl
theorem eq_re {n : Nat} : OK (eqF h (.v (.ref n)) (.l [])) C ↔ HK (hAt h n) (fun xs => C xs.isEmpty) fun _ => False := by
  show OK (match listAt h n, RV.l [] with | some xs, .l [] => some xs.isEmpty | _, _ => eqR h (.v (.ref n)) (.l [])) C ↔ _
  unfold hAt
  cases e : h[n]? with
  | none =>
    have e2 : listAt h n = none := by unfold listAt; rw [e]
    rw [e2]
    show OK (eqR h (.v (.ref n)) (.l [])) C ↔ _
    have e3 : RV.toP h (.v (.ref n)) = none := by
      show (match listAt h n with | some xs => (mapO (toP h 61) xs).map PyData.list | none => none) = none
      rw [e2]
    unfold eqR
    rw [e3]
    exact Iff.rfl
  | some o =>
    cases o with
    | lst xs =>
      have e2 : listAt h n = some xs := by unfold listAt; rw [e]
      rw [e2]
      exact Iff.rfl
    | _ =>
      have e2 : listAt h n = none := by unfold listAt; rw [e]
      rw [e2]
      show OK (eqR h (.v (.ref n)) (.l [])) C ↔ _
      have e3 : RV.toP h (.v (.ref n)) = none := by
        show (match listAt h n with | some xs => (mapO (toP h 61) xs).map PyData.list | none => none) = none
        rw [e2]
      unfold eqR
      rw [e3]
      exact Iff.rfl
@[simp] theorem c_eqre {n : Nat} : OK (copB .eq (.v (.ref n)) (.l []) h) C ↔ HK (hAt h n) (fun xs => C xs.isEmpty) fun _ => False := eq_re
@[simp] theorem c_nere {n : Nat} : OK (copB .ne (.v (.ref n)) (.l []) h) C ↔ HK (hAt h n) (fun xs => C (!xs.isEmpty)) fun _ => False := by
  show OK ((eqF h (.v (.ref n)) (.l [])).map (!·)) C ↔ _
  have k : ∀ o : Option Bool, OK (o.map (!·)) C ↔ OK o fun b => C (!b) := fun o => by cases o <;> exact Iff.rfl
  rw [k]
  exact eq_re
/-! ### subscripts, slices -/
@[simp] theorem w_ixri {n : Nat} {i : Int} : Sat (ixF (.v (.ref n)) (.v (.int i)) h) Q ↔ HR (hAt h n) (fun xs => OK (atI xs i) fun d => Q (.v d) h) (fun kvs => OK (kvGet kvs (.inl i)) fun d => Q (.v d) h) fun kvs => OK (kvGet kvs (.inl i)) fun d => Q (.v d) h := by
  unfold hAt
  unfold ixF
  dsimp only
  cases h[n]? with
  | none => exact Iff.rfl
  | some o =>
    cases o with
    | lst xs => dsimp only; rw [hr_lst]; cases atI xs i <;> exact Iff.rfl
    | dic kvs =>
      show Sat (match kvGet kvs (.inl i) with | some v => ok1 v h | none => .bad) Q ↔ _
      rw [hr_dic]
      cases kvGet kvs (.inl i) <;> exact Iff.rfl
    | fdc kvs =>
      show Sat (match kvGet kvs (.inl i) with | some v => ok1 v h | none => .bad) Q ↔ _
      rw [hr_fdc]
      cases kvGet kvs (.inl i) <;> exact Iff.rfl
    | ins _ _ => exact Iff.rfl
@[simp] theorem w_ixrs {n : Nat} {x : Tx} : Sat (ixF (.v (.ref n)) (.v (.str x)) h) Q ↔ HR (hAt h n) (fun _ => False) (fun kvs => OK (kvGet kvs (.inr x)) fun d => Q (.v d) h) fun kvs => OK (kvGet kvs (.inr x)) fun d => Q (.v d) h := by
  unfold hAt
  unfold ixF
  dsimp only
  cases h[n]? with
  | none => exact Iff.rfl
  | some o =>
    cases o with
    | lst xs => exact Iff.rfl
    | dic kvs =>
      show Sat (match kvGet kvs (.inr x) with | some v => ok1 v h | none => .bad) Q ↔ _
      rw [hr_dic]
      cases kvGet kvs (.inr x) <;> exact Iff.rfl
    | fdc kvs =>
      show Sat (match kvGet kvs (.inr x) with | some v => ok1 v h | none => .bad) Q ↔ _
      rw [hr_fdc]
      cases kvGet kvs (.inr x) <;> exact Iff.rfl
    | ins _ _ => exact Iff.rfl
@[simp] theorem w_ixl {xs : List D} {i : Int} : Sat (ixF (.l xs) (.v (.int i)) h) Q ↔ OK (atI xs i) fun d => Q (.v d) h := by
  unfold ixF; dsimp only; cases atI xs i <;> exact Iff.rfl
@[simp] theorem w_ixt {xs : List D} {i : Int} : Sat (ixF (.v (.tup xs)) (.v (.int i)) h) Q ↔ OK (atI xs i) fun d => Q (.v d) h := by
  unfold ixF; dsimp only; cases atI xs i <;> exact Iff.rfl
@[simp] theorem w_ixf {xs : List D} {i : Int} : Sat (ixF (.v (.fz xs)) (.v (.int i)) h) Q ↔ OK (atI xs i) fun d => Q (.v d) h := by
  unfold ixF; dsimp only; cases atI xs i <;> exact Iff.rfl
@[simp] theorem w_ixs {x : Tx} {i : Int} : Sat (ixF (.v (.str x)) (.v (.int i)) h) Q ↔ x.length ≤ SL ∧ OK (atI x i) fun c => Q (.v (.str [c])) h := by
  unfold ixF
  dsimp only
  by_cases e : x.length ≤ SL
  · rw [if_pos e]; simp only [e, true_and]; cases atI x i <;> exact Iff.rfl
  · rw [if_neg e]; simp [e]
@[simp] theorem w_slt {xs : List D} {lo hi : Option Int} : Sat (slF (.v (.tup xs)) lo hi h) Q ↔ Q (.v (.tup (cut xs lo hi))) h := Iff.rfl
@[simp] theorem w_sll {xs : List D} {lo hi : Option Int} : Sat (slF (.l xs) lo hi h) Q ↔ Q (.l (cut xs lo hi)) h := Iff.rfl
@[simp] theorem w_slf {xs : List D} {lo hi : Option Int} : Sat (slF (.v (.fz xs)) lo hi h) Q ↔ Q (.l (cut xs lo hi)) h := Iff.rfl
@[simp] theorem w_sls {x : Tx} {lo hi : Option Int} : Sat (slF (.v (.str x)) lo hi h) Q ↔ x.length ≤ SL ∧ Q (.v (.str (cut x lo hi))) h := sat_ite
@[simp] theorem w_slref {n : Nat} {lo hi : Option Int} : Sat (slF (.v (.ref n)) lo hi h) Q ↔ HK (hAt h n) (fun xs => Q (.l (cut xs lo hi)) h) fun _ => False := by
  unfold hAt
  show Sat (match listAt h n with | some xs => .ok (.l (cut xs lo hi)) h | none => .bad) Q ↔ _
  unfold listAt
  cases h[n]? with
  | none => exact Iff.rfl
  | some o => cases o <;> exact Iff.rfl
@[simp] theorem w_srt {xs : List D} : Sat (slrF (.v (.tup xs)) h) Q ↔ Q (.v (.tup xs.reverse)) h := Iff.rfl
@[simp] theorem w_srl {xs : List D} : Sat (slrF (.l xs) h) Q ↔ Q (.l xs.reverse) h := Iff.rfl
@[simp] theorem w_srs {x : Tx} : Sat (slrF (.v (.str x)) h) Q ↔ x.length ≤ SL ∧ Q (.v (.str x.reverse)) h := sat_ite
@[simp] theorem w_lrr {n : Nat} : Sat (lrevF (.v (.ref n)) h) Q ↔ HK (hAt h n) (fun xs => Q (.l xs.reverse) h) fun _ => False := by
  unfold lrevF
  show Sat (match listAt h n with | some xs => .ok (.l xs.reverse) h | none => .bad) Q ↔ _
  unfold listAt hAt
  cases h[n]? with
  | none => exact Iff.rfl
  | some o => cases o <;> exact Iff.rfl
@[simp] theorem w_srref {n : Nat} : Sat (slrF (.v (.ref n)) h) Q ↔ HK (hAt h n) (fun xs => Q (.l xs.reverse) h) fun _ => False := by
  unfold hAt
  show Sat (match listAt h n with | some xs => .ok (.l xs.reverse) h | none => .bad) Q ↔ _
  unfold listAt
  cases h[n]? with
  | none => exact Iff.rfl
  | some o => cases o <;> exact Iff.rfl
@[simp] theorem ok_setIi {n : Nat} {i : Int} {d : D} {Q : Hm → Prop} : OK (setItF (.v (.ref n)) (.v (.int i)) d h) Q ↔ HK (hAt h n) (fun xs => OK (ixN xs.length i) fun p => Q (h.set n (.lst (xs.set p d)))) fun kvs => kvs.length < SL ∧ Q (h.set n (.dic (kvPut kvs (.int i) d (.inl i)))) := by
  unfold hAt
  unfold setItF
  dsimp only
  cases h[n]? with
  | none => exact Iff.rfl
  | some o =>
    cases o with
    | lst xs => dsimp only; rw [hk_lst]; cases ixN xs.length i <;> exact Iff.rfl
    | dic kvs =>
      show OK (if kvs.length < SL then some (h.set n (.dic (kvPut kvs (.int i) d (.inl i)))) else none) Q ↔ _
      by_cases e : kvs.length < SL
      · rw [if_pos e]; simp [e]
      · rw [if_neg e]; simp [e]
    | fdc _ => exact Iff.rfl
    | ins _ _ => exact Iff.rfl
@[simp] theorem ok_setIs {n : Nat} {x : Tx} {d : D} {Q : Hm → Prop} : OK (setItF (.v (.ref n)) (.v (.str x)) d h) Q ↔ HK (hAt h n) (fun _ => False) fun kvs => kvs.length < SL ∧ Q (h.set n (.dic (kvPut kvs (.str x) d (.inr x)))) := by
  unfold hAt
  unfold setItF
  dsimp only
  cases h[n]? with
  | none => exact Iff.rfl
  | some o =>
    cases o with
    | lst xs => exact Iff.rfl
    | dic kvs =>
      show OK (if kvs.length < SL then some (h.set n (.dic (kvPut kvs (.str x) d (.inr x)))) else none) Q ↔ _
      by_cases e : kvs.length < SL
      · rw [if_pos e]; simp [e]
      · rw [if_neg e]; simp [e]
    | fdc _ => exact Iff.rfl
    | ins _ _ => exact Iff.rfl
/-! ### what is walked -/
variable {S : Src → Prop}
@[simp] theorem src_l {xs : List D} : srcOf (.l xs) h = some ⟨xs, []⟩ := rfl
@[simp] theorem src_t {xs : List D} : srcOf (.v (.tup xs)) h = some ⟨xs, []⟩ := rfl
@[simp] theorem src_f {xs : List D} : srcOf (.v (.fz xs)) h = some ⟨xs, []⟩ := rfl
@[simp] theorem src_r {n : Nat} : OK (srcOf (.v (.ref n)) h) S ↔ HR (hAt h n) (fun xs => S ⟨xs, [(n, .lst xs)]⟩) (fun _ => False) fun kvs => S ⟨kvs.map (·.1), []⟩ := by
  unfold hAt
  unfold srcOf
  dsimp only
  cases h[n]? with
  | none => exact Iff.rfl
  | some o => cases o <;> exact Iff.rfl
@[simp] theorem src_s {x : Tx} : OK (srcOf (.v (.str x)) h) S ↔ x.length ≤ SL ∧ S ⟨x.map fun c => .str [c], []⟩ := by
  unfold srcOf
  dsimp only
  by_cases e : x.length ≤ SL
  · simp [e]
  · simp [e]
@[simp] theorem srcl_l {xs : List D} : srcL (.l xs) h = some ⟨xs, []⟩ := rfl
@[simp] theorem srcl_f {xs : List D} : srcL (.v (.fz xs)) h = some ⟨xs, []⟩ := rfl
@[simp] theorem tpk_r {n : Nat} {Q : List D → Prop} : TpK (.v (.ref n)) h Q ↔ HK (hAt h n) Q fun _ => False := by
  unfold TpK hAt
  show OK (listAt h n) Q ↔ _
  unfold listAt
  cases h[n]? with
  | none => exact Iff.rfl
  | some o => cases o <;> exact Iff.rfl
@[simp] theorem srcl_r {n : Nat} : OK (srcL (.v (.ref n)) h) S ↔ HK (hAt h n) (fun xs => S ⟨xs, [(n, .lst xs)]⟩) fun _ => False := by
  unfold hAt
  unfold srcL
  dsimp only
  cases h[n]? with
  | none => exact Iff.rfl
  | some o => cases o <;> exact Iff.rfl
@[simp] theorem rng_1 {n : Int} : OK (rngOf [.v (.int n)]) S ↔ (small62 n = true ∧ n.toNat ≤ SL) ∧ S ⟨countUp 0 n.toNat, []⟩ := by
  unfold rngOf
  dsimp only
  by_cases e : (small62 n && decide (n.toNat ≤ SL)) = true
  · rw [if_pos e]
    simp only [Bool.and_eq_true, decide_eq_true_eq] at e
    simp [e]
  · rw [if_neg e]
    simp only [Bool.and_eq_true, decide_eq_true_eq] at e
    exact ⟨fun z => z.elim, fun z => absurd z.1 e⟩
@[simp] theorem rng_2 {a b : Int} : OK (rngOf [.v (.int a), .v (.int b)]) S ↔ (small62 a = true ∧ small62 b = true ∧ (b - a).toNat ≤ SL) ∧ S ⟨countUp a (b - a).toNat, []⟩ := by
  unfold rngOf
  dsimp only
  by_cases e : (small62 a && small62 b && decide ((b - a).toNat ≤ SL)) = true
  · rw [if_pos e]
    simp only [Bool.and_eq_true, decide_eq_true_eq, and_assoc] at e
    simp [e]
  · rw [if_neg e]
    simp only [Bool.and_eq_true, decide_eq_true_eq, and_assoc] at e
    exact ⟨fun z => z.elim, fun z => absurd z.1 e⟩
/-! ### built-ins -/
@[simp] theorem b_lens {x : Tx} : Sat (bltF .len [.v (.str x)] h) Q ↔ x.length ≤ SL ∧ Q (.v (.int x.length)) h := sat_ite
@[simp] theorem b_lent {xs : List D} : Sat (bltF .len [.v (.tup xs)] h) Q ↔ Q (.v (.int xs.length)) h := Iff.rfl
@[simp] theorem b_lenl {xs : List D} : Sat (bltF .len [.l xs] h) Q ↔ Q (.v (.int xs.length)) h := Iff.rfl
@[simp] theorem b_lenf {xs : List D} : Sat (bltF .len [.v (.fz xs)] h) Q ↔ Q (.v (.int xs.length)) h := Iff.rfl
@[simp] theorem b_lenr {n : Nat} : Sat (bltF .len [.v (.ref n)] h) Q ↔ HR (hAt h n) (fun xs => Q (.v (.int xs.length)) h) (fun xs => Q (.v (.int xs.length)) h) fun xs => Q (.v (.int xs.length)) h := by
  unfold hAt
  show Sat (match listAt h n with
      | some xs => ok1 (.int xs.length) h
      | none => match h[n]? with
        | some (.dic kvs) => ok1 (.int kvs.length) h
        | some (.fdc kvs) => ok1 (.int kvs.length) h
        | _ => .bad) Q ↔ _
  unfold listAt
  cases h[n]? with
  | none => exact Iff.rfl
  | some o => cases o <;> exact Iff.rfl
@[simp] theorem b_listt {xs : List D} : Sat (bltF .list [.v (.tup xs)] h) Q ↔ Q (.l xs) h := Iff.rfl
@[simp] theorem b_listf {xs : List D} : Sat (bltF .list [.v (.fz xs)] h) Q ↔ Q (.l xs) h := Iff.rfl
@[simp] theorem b_listl {xs : List D} : Sat (bltF .list [.l xs] h) Q ↔ Q (.l xs) h := Iff.rfl
@[simp] theorem b_listr {n : Nat} : Sat (bltF .list [.v (.ref n)] h) Q ↔ HK (hAt h n) (fun xs => Q (.l xs) h) fun _ => False := by
  unfold hAt
  show Sat (match listAt h n with | some xs => .ok (.l xs) h | none => .bad) Q ↔ _
  unfold listAt
  cases h[n]? with
  | none => exact Iff.rfl
  | some o => cases o <;> exact Iff.rfl
@[simp] theorem b_tupt {xs : List D} : Sat (bltF .tuple [.v (.tup xs)] h) Q ↔ Q (.v (.tup xs)) h := Iff.rfl
@[simp] theorem b_tupl {xs : List D} : Sat (bltF .tuple [.l xs] h) Q ↔ Q (.v (.tup xs)) h := Iff.rfl
@[simp] theorem b_tupf {xs : List D} : Sat (bltF .tuple [.v (.fz xs)] h) Q ↔ Q (.v (.tup xs)) h := Iff.rfl
@[simp] theorem b_tupr {n : Nat} : Sat (bltF .tuple [.v (.ref n)] h) Q ↔ HK (hAt h n) (fun xs => Q (.v (.tup xs)) h) fun _ => False := by
  unfold hAt
  show Sat (match listAt h n with | some xs => ok1 (.tup xs) h | none => .bad) Q ↔ _
  unfold listAt
  cases h[n]? with
  | none => exact Iff.rfl
  | some o => cases o <;> exact Iff.rfl
@[simp] theorem b_intb {b : Bool} : Sat (bltF .int [.v (.bl b)] h) Q ↔ Q (.v (.int (b2i b))) h := Iff.rfl
@[simp] theorem b_inti {i : Int} : Sat (bltF .int [.v (.int i)] h) Q ↔ Q (.v (.int i)) h := Iff.rfl
@[simp] theorem b_abs {i : Int} : Sat (bltF .abs [.v (.int i)] h) Q ↔ Q (.v (.int i.natAbs)) h := Iff.rfl
@[simp] theorem b_max2 {i j : Int} : Sat (bltF .max [.v (.int i), .v (.int j)] h) Q ↔ Q (.v (.int (max i j))) h := Iff.rfl
@[simp] theorem b_min2 {i j : Int} : Sat (bltF .min [.v (.int i), .v (.int j)] h) Q ↔ Q (.v (.int (min i j))) h := Iff.rfl
@[simp] theorem ints_map (ns : List Int) : ints? (ns.map .int) = some ns := by
  unfold ints?
  induction ns with
  | nil => rfl
  | cons n ns ih =>
    rw [List.map_cons, mapO, ih]; rfl
@[simp] theorem b_sumf {ns : List Int} : Sat (bltF .sum [.v (.fz (ns.map .int))] h) Q ↔ Q (.v (.int ns.sum)) h := by
  show Sat (match ints? (ns.map .int) with | some is => ok1 (.int is.sum) h | _ => .bad) Q ↔ _
  rw [ints_map]; exact Iff.rfl
@[simp] theorem b_suml {ns : List Int} : Sat (bltF .sum [.l (ns.map .int)] h) Q ↔ Q (.v (.int ns.sum)) h := by
  show Sat (match ints? (ns.map .int) with | some is => ok1 (.int is.sum) h | _ => .bad) Q ↔ _
  rw [ints_map]; exact Iff.rfl
/-! ### methods -/
@[simp] theorem keeps_append : Mth.append.keeps = true := rfl
@[simp] theorem keeps_extend : Mth.extend.keeps = false := rfl
@[simp] theorem keeps_pop : Mth.pop.keeps = false := rfl
@[simp] theorem keeps_get : Mth.get.keeps = true := rfl
@[simp] theorem keeps_insert : Mth.insert.keeps = true := rfl
theorem lst_hk {n : Nat} : (RV.lst? h (.v (.ref n))).isSome = true ↔ HK (hAt h n) (fun _ => True) fun _ => False := by
  unfold hAt
  show (listAt h n).isSome = true ↔ _
  unfold listAt
  cases h[n]? with
  | none => simp [HK]
  | some o => cases o <;> simp [HK]
@[simp] theorem ty_append {n : Nat} : mthTy .append (.v (.ref n)) h = true ↔ HK (hAt h n) (fun _ => True) fun _ => False := lst_hk
@[simp] theorem ty_extend {n : Nat} : mthTy .extend (.v (.ref n)) h = true ↔ HK (hAt h n) (fun _ => True) fun _ => False := lst_hk
@[simp] theorem ty_pop {n : Nat} : mthTy .pop (.v (.ref n)) h = true ↔ HK (hAt h n) (fun _ => True) fun _ => False := lst_hk
@[simp] theorem m_append {n : Nat} {d : D} : Sat (mthF .append (.v (.ref n)) [.v d] h) Q ↔ HK (hAt h n) (fun xs => xs.length < SL ∧ Q (.v .non) (h.set n (.lst (xs ++ [d])))) fun _ => False := by
  unfold hAt
  unfold mthF
  dsimp only
  cases h[n]? with
  | none => exact Iff.rfl
  | some o =>
    cases o with
    | lst xs => exact sat_ite
    | _ => exact Iff.rfl
@[simp] theorem m_extl {n : Nat} {ys : List D} : Sat (mthF .extend (.v (.ref n)) [.l ys] h) Q ↔ HK (hAt h n) (fun xs => xs.length + ys.length ≤ SL ∧ Q (.v .non) (h.set n (.lst (xs ++ ys)))) fun _ => False := by
  unfold hAt
  unfold mthF
  dsimp only
  cases h[n]? with
  | none => exact Iff.rfl
  | some o =>
    cases o with
    | lst xs => exact sat_ite
    | _ => exact Iff.rfl
@[simp] theorem m_pop {n : Nat} : Sat (mthF .pop (.v (.ref n)) [] h) Q ↔ HK (hAt h n) (fun xs => OK (xs[xs.length - 1]?) fun y => Q (.v y) (h.set n (.lst xs.dropLast))) fun _ => False := by
  unfold hAt
  unfold mthF
  dsimp only
  cases h[n]? with
  | none => exact Iff.rfl
  | some o =>
    cases o with
    | lst xs => dsimp only; rw [hk_lst]; cases xs[xs.length - 1]? <;> exact Iff.rfl
    | _ => exact Iff.rfl
end
/-! ### slots -/
@[simp] theorem slots_nil {σ : Env} : setSlots σ [] [] = some σ := rfl
@[simp] theorem slots_cons {σ : Env} {t : Nat} {ts : List Nat} {d : D} {ds : List D} : setSlots σ (t :: ts) (d :: ds) = setSlots (σ.set t (some d)) ts ds := rfl
@[simp] theorem slots_short {σ : Env} {t : Nat} {ts : List Nat} : setSlots σ (t :: ts) [] = none := rfl
@[simp] theorem slots_long {σ : Env} {d : D} {ds : List D} : setSlots σ [] (d :: ds) = none := rfl
@[simp] theorem tg_nm {i : Nat} {d : D} {σ : Env} : tgF (.nm i) d σ = some (σ.set i (some d)) := rfl
@[simp] theorem tg_tp {ts : List Nat} {ds : List D} {σ : Env} : tgF (.tp ts) (.tup ds) σ = setSlots σ ts ds := rfl
/-! ### numbers -/
theorem mul_small {i j : Int} (h1 : i.natAbs < 2 ^ 200) (h2 : j.natAbs < 2 ^ 200) : mulOk i j = true := by
  have k : ∀ n : Nat, n < 2 ^ 200 → n.log2 < 200 := fun n hn => by
    by_cases z : n = 0
    · subst z; decide
    · exact (Nat.log2_lt z).mpr hn
  unfold mulOk
  have a := k _ h1
  have b := k _ h2
  rw [decide_eq_true (by omega)]; rfl
theorem mul_unit {i j : Int} (h2 : j.natAbs < 18446744073709551616) : mulOk i j = true := by
  unfold mulOk
  rw [decide_eq_true h2, Bool.or_true, Bool.or_true]
theorem div_small {j : Int} (h1 : 0 < j) (h2 : j < 2 ^ 200) : divOk j = true := by
  unfold divOk
  have h3 : j.natAbs.log2 < 9000 := by
    have : j.natAbs ≠ 0 := by omega
    refine (Nat.log2_lt this).mpr ?_
    have : j.natAbs < 2 ^ 200 := by omega
    exact Nat.lt_of_lt_of_le this (Nat.pow_le_pow_right (by decide) (by decide))
  simp [h1, h3]
end MP

/-! MW3: loops by place; calls that grow the heap; the hand of numbers. -/
namespace MP
open PySem
theorem countUp_split : ∀ (n : Nat) (lo : Int) (pre post : List D) (x : D), countUp lo n = pre ++ x :: post → x = .int (lo + pre.length) ∧ pre.length < n
  | 0, lo, pre, post, x, e => by cases pre <;> cases e
  | n + 1, lo, [], post, x, e => by
    have e : D.int lo :: countUp (lo + 1) n = x :: post := e
    injection e with e1 e2
    refine ⟨?_, Nat.succ_pos n⟩
    rw [← e1]; simp
  | n + 1, lo, p :: pre, post, x, e => by
    have e : D.int lo :: countUp (lo + 1) n = p :: (pre ++ x :: post) := e
    injection e with e1 e2
    obtain ⟨h1, h2⟩ := countUp_split n (lo + 1) pre post x e2
    refine ⟨?_, by simp; omega⟩
    rw [h1]
    congr 1
    simp
    omega
theorem countUp_length : ∀ (n : Nat) (lo : Int), (countUp lo n).length = n
  | 0, _ => rfl
  | n + 1, lo => congrArg (· + 1) (countUp_length n (lo + 1))
section
variable {tg : D → Env → Option Env} {body : Env → Hm → Res Out} {cs : List (Nat × O)} {Q : Out → Hm → Prop}
/-- a loop by place -/
theorem sat_forX {xs : List D} {σ : Env} {h : Hm} (I : Nat → Env → Hm → Prop) (start : I 0 σ h)
    (step : ∀ i x σ h, xs[i]? = some x → I i σ h → HC cs h ∧ OK (tg x σ) fun σ1 => Sat (body σ1 h) fun o h2 => LK o (fun σ2 => I (i + 1) σ2 h2) (fun σ2 => Q (.nx σ2) h2) fun d => Q (.rt d) h2)
    (fin : ∀ σ h, I xs.length σ h → HC cs h ∧ Q (.nx σ) h) : Sat (forL tg body cs xs σ h) Q := by
  refine sat_for (fun pre post σ h => xs = pre ++ post ∧ I pre.length σ h) (fun pre x post σ h ⟨e, i⟩ => ?_) (fun pre σ h ⟨e, i⟩ => ?_) xs [] σ h ⟨rfl, start⟩
  · obtain ⟨h1, h2⟩ := step pre.length x σ h (by rw [e]; simp) i
    refine ⟨h1, ?_⟩
    cases q : tg x σ with
    | none => rw [q] at h2; exact h2
    | some σ1 =>
      rw [q] at h2
      refine Sat.mono (show Sat (body σ1 h) _ from h2) fun o h3 z => ?_
      cases o with
      | nx σ2 => exact ⟨by rw [e]; simp, by simpa using z⟩
      | ct σ2 => exact ⟨by rw [e]; simp, by simpa using z⟩
      | bk σ2 => exact z
      | rt d => exact z
  · rw [List.append_nil] at e
    subst e
    exact fin σ h i
theorem sat_forN {lo : Int} {n : Nat} {σ : Env} {h : Hm} (I : Nat → Env → Hm → Prop) (start : I 0 σ h)
    (step : ∀ i σ h, i < n → I i σ h → HC cs h ∧ OK (tg (.int (lo + i)) σ) fun σ1 => Sat (body σ1 h) fun o h2 => LK o (fun σ2 => I (i + 1) σ2 h2) (fun σ2 => Q (.nx σ2) h2) fun d => Q (.rt d) h2)
    (fin : ∀ σ h, I n σ h → HC cs h ∧ Q (.nx σ) h) : Sat (forL tg body cs (countUp lo n) σ h) Q := by
  refine sat_forX I start (fun i x σ h e z => ?_) (fun σ h z => fin σ h (by rwa [countUp_length] at z))
  have hi : i < n := by
    have := (List.getElem?_eq_some_iff.mp e).1
    rwa [countUp_length] at this
  have ex : x = .int (lo + i) := by
    obtain ⟨hl, e2⟩ := List.getElem?_eq_some_iff.mp e
    have sp : countUp lo n = (countUp lo n).take i ++ x :: (countUp lo n).drop (i + 1) := by
      rw [← e2, List.getElem_cons_drop, List.take_append_drop]
    have := (countUp_split n lo _ _ x sp).1
    rw [this, List.length_take, countUp_length, Nat.min_eq_left (Nat.le_of_lt hi)]
  rw [ex]
  exact step i σ h hi z
theorem sat_compX {step : D → Hm → Res (Option D)} {xs : List D} {h : Hm} {Q : List D → Hm → Prop} (I : Nat → List D → Hm → Prop) (start : I 0 [] h)
    (st : ∀ i x acc h, xs[i]? = some x → I i acc h → HC cs h ∧ Sat (step x h) fun r h2 => I (i + 1) (acc ++ r.toList) h2)
    (fin : ∀ acc h, I xs.length acc h → HC cs h ∧ Q acc h) : Sat (compL step cs xs h) Q := by
  have := sat_comp (cs := cs) (step := step) (Q := Q) (fun pre post acc h => xs = pre ++ post ∧ I pre.length acc h) (fun pre x post acc h ⟨e, i⟩ => ?_) (fun pre acc h ⟨e, i⟩ => ?_) xs [] [] h ⟨rfl, start⟩
  · exact this
  · obtain ⟨h1, h2⟩ := st pre.length x acc h (by rw [e]; simp) i
    exact ⟨h1, h2.mono fun r h3 z => ⟨by rw [e]; simp, by simpa using z⟩⟩
  · rw [List.append_nil] at e
    subst e
    exact fin acc h i
theorem sat_compN {lo : Int} {n : Nat} {step : D → Hm → Res (Option D)} {h : Hm} {Q : List D → Hm → Prop} (I : Nat → List D → Hm → Prop) (start : I 0 [] h)
    (st : ∀ i acc h, i < n → I i acc h → HC cs h ∧ Sat (step (.int (lo + i)) h) fun r h2 => I (i + 1) (acc ++ r.toList) h2)
    (fin : ∀ acc h, I n acc h → HC cs h ∧ Q acc h) : Sat (compL step cs (countUp lo n) h) Q := by
  refine sat_compX I start (fun i x acc h e z => ?_) (fun acc h z => fin acc h (by rwa [countUp_length] at z))
  have hi : i < n := by
    have := (List.getElem?_eq_some_iff.mp e).1
    rwa [countUp_length] at this
  have ex : x = .int (lo + i) := by
    obtain ⟨hl, e2⟩ := List.getElem?_eq_some_iff.mp e
    have sp : countUp lo n = (countUp lo n).take i ++ x :: (countUp lo n).drop (i + 1) := by
      rw [← e2, List.getElem_cons_drop, List.take_append_drop]
    have := (countUp_split n lo _ _ x sp).1
    rw [this, List.length_take, countUp_length, Nat.min_eq_left (Nat.le_of_lt hi)]
  rw [ex]
  exact st i acc h hi z
end
/-- a comprehension's turn -/
theorem sat_step {G : Nat → D} {cf : Nat → List D → Hm → Res D} {elt : ME} {t : MT} {ifs : MEs} {own : List Nat} {σ : Env} {x : D} {h : Hm} {Q : Option D → Hm → Prop} :
    Sat (stepE (G := G) (cf := cf) elt t ifs own σ x h) Q ↔ OK (tgF t x (wipe σ own)) fun σ1 => Sat (evTs G cf ifs σ1 h) fun k h3 => (k = true → Sat (evE G cf elt σ1 h3) fun r h4 => Q (some (r.box h4).1) (r.box h4).2) ∧ (k = false → Q none h3) := by
  unfold stepE
  cases tgF t x (wipe σ own) with
  | none => exact Iff.rfl
  | some σ1 =>
    dsimp only
    rw [sat_bind, ok_some]
    refine sat_congr fun k h3 => ?_
    cases k with
    | true =>
      dsimp only
      rw [sat_bind]
      simp
    | false => simp
@[simp] theorem wipe_nil {σ : Env} : wipe σ [] = σ := rfl
@[simp] theorem wipe_cons {σ : Env} {i : Nat} {is : List Nat} : wipe σ (i :: is) = (wipe σ is).set i none := rfl
@[simp] theorem hAt_app0 {h t : Hm} : hAt (h ++ t) h.length = t[0]? := by
  unfold hAt; rw [List.getElem?_append_right (Nat.le_refl _), Nat.sub_self]
@[simp] theorem hAt_app1 {h t : Hm} {i : Nat} : hAt (h ++ t) (h.length + i) = t[i]? := by
  unfold hAt; rw [List.getElem?_append_right (Nat.le_add_right _ _), Nat.add_sub_cancel_left]
@[simp] theorem set_app0 {h t : Hm} {o : O} : (h ++ t).set h.length o = h ++ t.set 0 o := by
  rw [List.set_append_right _ _ (Nat.le_refl _), Nat.sub_self]
@[simp] theorem set_app1 {h t : Hm} {i : Nat} {o : O} : (h ++ t).set (h.length + i) o = h ++ t.set i o := by
  rw [List.set_append_right _ _ (Nat.le_add_right _ _), Nat.add_sub_cancel_left]
@[simp] theorem atI_0 {α : Type} {a : α} {xs : List α} : atI (a :: xs) 0 = some a := by
  unfold atI ixN
  simp
@[simp] theorem atI_1 {α : Type} {a b : α} {xs : List α} : atI (a :: b :: xs) 1 = some b := by
  unfold atI ixN
  simp
  rw [if_pos (by omega)]
  simp
@[simp] theorem atI_2 {α : Type} {a b c : α} {xs : List α} : atI (a :: b :: c :: xs) 2 = some c := by
  unfold atI ixN
  simp
  rw [if_pos (by omega)]
  simp
theorem small_ok {i : Int} (h1 : -4000000000000000000 ≤ i) (h2 : i < 4000000000000000000) : small62 i = true := by
  unfold small62
  simp
  omega
theorem ok_pick {α : Type} {xs : List α} {v : Int} {R : α → Prop} (h0 : 0 ≤ v) (h1 : v < xs.length) (r : ∀ d ∈ xs, R d) : OK (atI xs v) R := by
  unfold atI ixN
  rw [if_pos h0, if_pos h1]
  dsimp only
  have hl : v.toNat < xs.length := by omega
  rw [List.getElem?_eq_getElem hl]
  exact r _ (List.getElem_mem hl)
theorem atI_nat {α : Type} {xs : List α} {i : Nat} : atI xs (i : Int) = xs[i]? := by
  unfold atI ixN
  rw [if_pos (Int.natCast_nonneg i)]
  by_cases l : i < xs.length
  · rw [if_pos (by omega)]; rfl
  · rw [if_neg (by omega)]
    rw [List.getElem?_eq_none (by omega)]
/-! ### the hand -/
def hand (a b w z : Int) : O := .lst [.int a, .int b, .int w, .int z]
/-- the hand at n -/
def HI (h : Hm) (n : Nat) : Prop := ∃ a b w z, hAt h n = some (hand a b w z) ∧ 0 ≤ b ∧ b < 3000000000
theorem HI.lt {h : Hm} {n : Nat} (i : HI h n) : n < h.length := let ⟨_, _, _, _, e, _⟩ := i; hAt_lt e
/-- from h to h': the hand at n may be another one, the rest stands; more may have come -/
structure Gr (n : Nat) (h h' : Hm) : Prop where
  len : h.length ≤ h'.length
  at_ : ∀ i, i < h.length → i ≠ n → hAt h' i = hAt h i
  hd : HI h' n
theorem Gr.refl {n : Nat} {h : Hm} (i : HI h n) : Gr n h h := ⟨Nat.le_refl _, fun _ _ _ => rfl, i⟩
theorem Gr.trans {n : Nat} {h h1 h2 : Hm} (a : Gr n h h1) (b : Gr n h1 h2) : Gr n h h2 :=
  ⟨Nat.le_trans a.len b.len, fun i hi ne => (b.at_ i (Nat.lt_of_lt_of_le hi a.len) ne).trans (a.at_ i hi ne), b.hd⟩
theorem Gr.get {n : Nat} {h h' : Hm} (g : Gr n h h') {i : Nat} {o : O} (e : hAt h i = some o) (ne : i ≠ n) : hAt h' i = some o := (g.at_ i (hAt_lt e) ne).trans e
theorem Gr.app {n : Nat} {h h' : Hm} {t : Hm} (g : Gr n h h') : Gr n h (h' ++ t) := by
  refine ⟨by rw [List.length_append]; have := g.len; omega, fun i hi ne => ?_, ?_⟩
  · rw [hAt_app (Nat.lt_of_lt_of_le hi g.len)]; exact g.at_ i hi ne
  · obtain ⟨a, b, w, z, e, q⟩ := g.hd
    exact ⟨a, b, w, z, by rw [hAt_app (hAt_lt e)]; exact e, q⟩
/-- the hand turned -/
theorem Gr.hand {n : Nat} {h h' : Hm} {a b w z : Int} (g : Gr n h h') (h1 : 0 ≤ b) (h2 : b < 3000000000) : Gr n h (h'.set n (MP.hand a b w z)) := by
  refine ⟨by rw [List.length_set]; exact g.len, fun i hi ne => ?_, ⟨a, b, w, z, hAt_set g.hd.lt, h1, h2⟩⟩
  rw [hAt_ne (Ne.symm ne)]; exact g.at_ i hi ne
/-- an object of one's own turned -/
theorem Gr.own {n m : Nat} {h h' : Hm} {o : O} (g : Gr n h h') (hm : h.length ≤ m) (ne : m ≠ n) : Gr n h (h'.set m o) := by
  refine ⟨by rw [List.length_set]; exact g.len, fun i hi ne2 => ?_, ?_⟩
  · rw [hAt_ne (by omega)]; exact g.at_ i hi ne2
  · obtain ⟨a, b, w, z, e, q⟩ := g.hd
    exact ⟨a, b, w, z, by rw [hAt_ne ne]; exact e, q⟩
theorem hand_cl {a b w z : Int} {m : Nat} : (hand a b w z).cl m = true := rfl
theorem Gr.stable {n : Nat} {h h' : Hm} (g : Gr n h h') : Stable h h' := by
  refine ⟨g.len, fun i hi => ?_⟩
  by_cases e : i = n
  · subst e
    obtain ⟨a, b, w, z, e, q⟩ := g.hd
    exact .inr ⟨_, e, hand_cl⟩
  · exact .inl (g.at_ i hi e)
theorem Gr.take {n : Nat} {h h' : Hm} (g : Gr n h h') (hn : n < h.length) : Gr n h (h'.take h.length) := by
  have hl : (h'.take h.length).length = h.length := by rw [List.length_take]; have := g.len; omega
  have k : ∀ i, i < h.length → hAt (h'.take h.length) i = hAt h' i := fun i hi => List.getElem?_take_of_lt hi
  refine ⟨by omega, fun i hi ne => (k i hi).trans (g.at_ i hi ne), ?_⟩
  obtain ⟨a, b, w, z, e, q⟩ := g.hd
  exact ⟨a, b, w, z, by rw [k n hn]; exact e, q⟩
/-- values that hold no number of the heap -/
theorem sat_callH {t : Nat → List D → Hm → Res D} {P : Pg} {k f n : Nat} {F : Fd} {ds : List D} {h : Hm} {Q : D → Hm → Prop} (hi : HI h n) (e : P.fns[f]? = some F) (hl : ds.length = F.np)
    (b : Sat (evSs P.G (callG t P k) F.body (startE F.n ds) h) fun o h' => EK o fun d => Gr n h h' ∧ d.cl h.length = true ∧ ∀ h'', Gr n h h'' → h''.length = h.length → Q d h'') : Sat (callG t P (k + 1) f ds h) Q := by
  refine sat_callG e hl (b.mono fun o h' q => ?_)
  have go : ∀ d, (Gr n h h' ∧ d.cl h.length = true ∧ ∀ h'', Gr n h h'' → h''.length = h.length → Q d h'') → Sat (gcR h (.ok d h')) Q := fun d ⟨g, c, q⟩ => by
    rw [gcR_st g.stable]
    unfold gcOk
    rw [if_pos c]
    exact q _ (g.take hi.lt) (by rw [List.length_take]; have := g.len; omega)
  cases o with
  | nx σ => exact go _ q
  | rt d => exact go _ q
  | bk σ => exact q
  | ct σ => exact q
/-! ### things that are looked at -/
mutual
def Tm (h : Hm) : D → Bool
  | .ref m => match hAt h m with
    | some (.lst _) => true
    | some (.dic _) => true
    | _ => false
  | .fn _ => false
  | .tup ds => Tms h ds
  | .fz ds => false
  | _ => true
def Tms (h : Hm) : List D → Bool
  | [] => true
  | d :: ds => Tm h d && Tms h ds
end
theorem tms_mem {h : Hm} : ∀ {ds : List D}, Tms h ds = true → ∀ d ∈ ds, Tm h d = true
  | [], _, d, m => by cases m
  | x :: ds, e, d, m => by
    rw [Tms, Bool.and_eq_true] at e
    rcases List.mem_cons.mp m with z | z
    · rw [z]; exact e.1
    · exact tms_mem e.2 d z
theorem tms_of {h : Hm} : ∀ {ds : List D}, (∀ d ∈ ds, Tm h d = true) → Tms h ds = true
  | [], _ => rfl
  | x :: ds, e => by
    rw [Tms, e x List.mem_cons_self, tms_of fun d m => e d (List.mem_cons_of_mem _ m)]; rfl
theorem tms_append {h : Hm} {xs ys : List D} : Tms h (xs ++ ys) = (Tms h xs && Tms h ys) := by
  induction xs with
  | nil => rfl
  | cons x xs ih => rw [List.cons_append, Tms, Tms, ih, Bool.and_assoc]
section
variable {h h' : Hm}
/-- what was a list or a dict is one still -/
def Keeps (h h' : Hm) : Prop := ∀ m, Tm h (.ref m) = true → Tm h' (.ref m) = true
mutual
theorem Tm.mono (k : Keeps h h') : ∀ d : D, Tm h d = true → Tm h' d = true
  | .ref m, e => k m e
  | .fn _, e => by rw [Tm] at e; cases e
  | .tup ds, e => by rw [Tm] at e ⊢; exact Tms.mono k ds e
  | .fz ds, e => by rw [Tm] at e; cases e
  | .non, _ => rfl
  | .bl _, _ => rfl
  | .int _, _ => rfl
  | .str _, _ => rfl
theorem Tms.mono (k : Keeps h h') : ∀ ds : List D, Tms h ds = true → Tms h' ds = true
  | [], _ => rfl
  | d :: ds, e => by
    rw [Tms, Bool.and_eq_true] at e
    rw [Tms, Tm.mono k d e.1, Tms.mono k ds e.2]; rfl
end
theorem Gr.keeps {n : Nat} (g : Gr n h h') : Keeps h h' := fun m e => by
  by_cases z : m = n
  · subst z
    obtain ⟨a, b, w, z, e2, _⟩ := g.hd
    rw [Tm, e2]; rfl
  · rw [Tm] at e ⊢
    cases q : hAt h m with
    | none => rw [q] at e; cases e
    | some o => rw [g.get q z]; rw [q] at e; exact e
mutual
theorem Tm.back : ∀ d : D, Tm h' d = true → d.cl h.length = true → (∀ i, i < h.length → hAt h i = hAt h' i) → Tm h d = true
  | .ref m, e, c, k => by
    rw [D.cl] at c
    rw [Tm] at e ⊢
    rw [k m (of_decide_eq_true c)]; exact e
  | .fn _, e, _, _ => by rw [Tm] at e; cases e
  | .tup ds, e, c, k => by rw [Tm] at e ⊢; rw [D.cl] at c; exact Tms.back ds e c k
  | .fz ds, e, _, _ => by rw [Tm] at e; cases e
  | .non, _, _, _ => rfl
  | .bl _, _, _, _ => rfl
  | .int _, _, _, _ => rfl
  | .str _, _, _, _ => rfl
theorem Tms.back : ∀ ds : List D, Tms h' ds = true → D.cls h.length ds = true → (∀ i, i < h.length → hAt h i = hAt h' i) → Tms h ds = true
  | [], _, _, _ => rfl
  | d :: ds, e, c, k => by
    rw [Tms, Bool.and_eq_true] at e
    rw [D.cls, Bool.and_eq_true] at c
    rw [Tms, Tm.back d e.1 c.1 k, Tms.back ds e.2 c.2 k]; rfl
end
end
/-- any thing made with a hand -/
theorem sat_callT {t : Nat → List D → Hm → Res D} {P : Pg} {k f n : Nat} {F : Fd} {ds : List D} {h : Hm} {Q : D → Hm → Prop} (R : D → Prop) (rr : ∀ m, R (.ref m)) (hi : HI h n) (e : P.fns[f]? = some F) (hl : ds.length = F.np)
    (b : Sat (evSs P.G (callG t P k) F.body (startE F.n ds) h) fun o h' => EK o fun d => Gr n h h' ∧ Tm h' d = true ∧ R d) (q : ∀ d h', Gr n h h' → Tm h' d = true → R d → Q d h') : Sat (callG t P (k + 1) f ds h) Q := by
  refine sat_callG e hl (b.mono fun o h' z => ?_)
  have go : ∀ d, (Gr n h h' ∧ Tm h' d = true ∧ R d) → Sat (gcR h (.ok d h')) Q := fun d ⟨g, t, r⟩ => by
    rw [gcR_st g.stable]
    have hl2 : (h'.take h.length).length = h.length := by rw [List.length_take]; have := g.len; omega
    have kk : ∀ i, i < h.length → hAt (h'.take h.length) i = hAt h' i := fun i hi => List.getElem?_take_of_lt hi
    unfold gcOk
    split
    · rename_i c
      refine q _ _ (g.take hi.lt) (Tm.back d t (by rw [hl2]; exact c) fun i hi2 => kk i (by rwa [hl2] at hi2)) r
    · split
      · rename_i m _
        split
        · rename_i xs em
          split
          · refine q _ _ ((g.take hi.lt).app) ?_ (rr _)
            have : hAt (h'.take h.length ++ [.lst xs]) h.length = some (.lst xs) := by
              have := hAt_last (h := h'.take h.length) (o := .lst xs)
              rwa [hl2] at this
            rw [Tm, this]
          · exact q _ _ g t r
        · exact q _ _ g t r
      · exact q _ _ g t r
  cases o with
  | nx σ => exact go _ z
  | rt d => exact go _ z
  | bk σ => exact z
  | ct σ => exact z
/-- a list that came since, by itself -/
theorem gc_list {h h' : Hm} {m : Nat} {xs : List D} (o : Over h h') (e : hAt h' m = some (.lst xs)) (hm : h.length ≤ m) (c : D.cls h.length xs = true) : gcR h (.ok (.ref m) h') = .ok (.ref h.length) (h ++ [.lst xs]) := by
  rw [gcR_st o.stable]
  unfold gcOk
  rw [if_neg (by rw [D.cl]; simp; exact hm)]
  unfold hAt at e
  dsimp only
  rw [e]
  dsimp only
  rw [if_pos c, o.2]
theorem cut_mem {α : Type} {xs : List α} {lo hi : Option Int} {x : α} (m : x ∈ cut xs lo hi) : x ∈ xs := by
  unfold cut at m
  exact List.mem_of_mem_drop (List.mem_of_mem_take m)
theorem cut_len {α : Type} {xs : List α} {lo hi : Option Int} : (cut xs lo hi).length ≤ xs.length := by
  unfold cut
  rw [List.length_take, List.length_drop]
  omega
theorem mapO_some {α β : Type} {f : α → Option β} : ∀ {xs : List α}, (∀ x ∈ xs, ∃ y, f x = some y) → ∃ ys, mapO f xs = some ys ∧ ys.length = xs.length
  | [], _ => ⟨[], rfl, rfl⟩
  | x :: xs, h => by
    obtain ⟨y, e⟩ := h x List.mem_cons_self
    obtain ⟨ys, e2, l⟩ := mapO_some fun z m => h z (List.mem_cons_of_mem _ m)
    refine ⟨y :: ys, ?_, by simp [l]⟩
    rw [mapO, e, e2]
/-- a tuple of data against () -/
theorem eq_tup_nil {h : Hm} {ds : List D} (d : ∀ x ∈ ds, ∃ y, toP h 61 x = some y) : copB .eq (.v (.tup ds)) (.v (.tup [])) h = some ds.isEmpty := by
  obtain ⟨ys, e, l⟩ := mapO_some d
  have e1 : RV.toP h (.v (.tup ds)) = some (.tuple ys) := by
    show (mapO (toP h 61) ds).map PyData.tuple = _
    rw [e]; rfl
  have e2 : RV.toP h (.v (.tup [])) = some (.tuple []) := rfl
  show eqR h (.v (.tup ds)) (.v (.tup [])) = _
  unfold eqR
  rw [e1, e2]
  cases ys with
  | nil =>
    cases ds with
    | nil => rfl
    | cons _ _ => cases l
  | cons y ys =>
    cases ds with
    | nil => cases l
    | cons _ _ => rfl
/-! ### kinds of things -/
def isN : D → Bool
  | .int _ => true
  | _ => false
def isT : D → Bool
  | .tup _ => true
  | _ => false
def isBo : D → Bool
  | .bl _ => true
  | _ => false
def isS : D → Bool
  | .str _ => true
  | _ => false
theorem isk_of {h : Hm} {d : D} {u : Ty} {ts : List Ty} (e : tyOf h d = some u) {Q : RV → Hm → Prop} : IsK ts (.v d) h Q ↔ Q (.v (.bl (ts.any (isTy u)))) h := by
  unfold IsK
  dsimp only
  rw [e]
theorem ty_ref {h : Hm} {m : Nat} (t : Tm h (.ref m) = true) : ∃ u, tyOf h (.ref m) = some u ∧ (u = .list ∨ u = .dict) := by
  rw [Tm] at t
  unfold tyOf
  unfold hAt at t
  dsimp only
  cases e : h[m]? with
  | none => rw [e] at t; cases t
  | some o =>
    rw [e] at t
    cases o with
    | lst _ => exact ⟨_, rfl, .inl rfl⟩
    | dic _ => exact ⟨_, rfl, .inr rfl⟩
    | fdc _ => cases t
    | ins _ _ => cases t
theorem isk_t {h : Hm} {d : D} (t : Tm h d = true) {Q : RV → Hm → Prop} : IsK [.tuple] (.v d) h Q ↔ Q (.v (.bl (isT d))) h := by
  cases d with
  | ref m =>
    obtain ⟨u, e, rfl | rfl⟩ := ty_ref t <;> exact isk_of e
  | fn _ => rw [Tm] at t; cases t
  | fz _ => rw [Tm] at t; cases t
  | _ => exact Iff.rfl
theorem isk_i {h : Hm} {d : D} (t : Tm h d = true) {Q : RV → Hm → Prop} : IsK [.int] (.v d) h Q ↔ Q (.v (.bl (isN d || isBo d))) h := by
  cases d with
  | ref m =>
    obtain ⟨u, e, rfl | rfl⟩ := ty_ref t <;> exact isk_of e
  | fn _ => rw [Tm] at t; cases t
  | fz _ => rw [Tm] at t; cases t
  | _ => exact Iff.rfl
theorem isk_b {h : Hm} {d : D} (t : Tm h d = true) {Q : RV → Hm → Prop} : IsK [.bool] (.v d) h Q ↔ Q (.v (.bl (isBo d))) h := by
  cases d with
  | ref m =>
    obtain ⟨u, e, rfl | rfl⟩ := ty_ref t <;> exact isk_of e
  | fn _ => rw [Tm] at t; cases t
  | fz _ => rw [Tm] at t; cases t
  | _ => exact Iff.rfl
theorem isk_s {h : Hm} {d : D} (t : Tm h d = true) {Q : RV → Hm → Prop} : IsK [.str] (.v d) h Q ↔ Q (.v (.bl (isS d))) h := by
  cases d with
  | ref m =>
    obtain ⟨u, e, rfl | rfl⟩ := ty_ref t <;> exact isk_of e
  | fn _ => rw [Tm] at t; cases t
  | fz _ => rw [Tm] at t; cases t
  | _ => exact Iff.rfl
end MP

/-! MV: data that lean on no heap; the values of the document. -/
namespace MP
open PySem
/-! ### data -/
def dt : Nat → D → Bool
  | 0 => fun _ => false
  | n + 1 => fun d => match d with
    | .non => true
    | .bl _ => true
    | .int _ => true
    | .str x => isAscii x
    | .tup xs => xs.all (dt n)
    | _ => false
mutual
def dEq : D → D → Bool
  | .non, e => (match e with
    | .non => true
    | _ => false)
  | .bl a, e => (match e with
    | .bl b => a == b
    | .int j => (if a then 1 else 0) == j
    | _ => false)
  | .int i, e => (match e with
    | .bl b => i == (if b then 1 else 0)
    | .int j => i == j
    | _ => false)
  | .str x, e => (match e with
    | .str y => decide (x = y)
    | _ => false)
  | .tup xs, e => (match e with
    | .tup ys => dEqs xs ys
    | _ => false)
  | .fz _, _ => false
  | .ref _, _ => false
  | .fn _, _ => false
def dEqs : List D → List D → Bool
  | [], ys => (match ys with
    | [] => true
    | _ => false)
  | x :: xs, ys => (match ys with
    | y :: ys => dEq x y && dEqs xs ys
    | _ => false)
end
theorem st_eq (x y : Tx) : ((⟨x.toArray⟩ : Str) == ⟨y.toArray⟩) = decide (x = y) := by
  by_cases e : x = y
  · subst e; simp
  · rw [decide_eq_false e]
    rw [beq_eq_false_iff_ne]
    intro z
    have : x.toArray = y.toArray := congrArg Str.cps z
    exact e (by simpa using this)
theorem dt_up : ∀ {n m : Nat} {d : D}, n ≤ m → dt n d = true → dt m d = true
  | 0, _, _, _, h => by cases h
  | n + 1, 0, _, l, _ => by omega
  | n + 1, m + 1, d, l, h => by
    cases d with
    | tup xs =>
      have h : xs.all (dt n) = true := h
      show xs.all (dt m) = true
      rw [List.all_eq_true] at h ⊢
      exact fun x mx => dt_up (by omega) (h x mx)
    | _ => exact h
section
variable {h : Hm}
theorem dt_toP : ∀ {n : Nat} {d : D}, dt n d = true → ∃ p, toP h n d = some p
  | 0, _, e => by cases e
  | n + 1, d, e => by
    cases d with
    | non => exact ⟨_, rfl⟩
    | bl _ => exact ⟨_, rfl⟩
    | int _ => exact ⟨_, rfl⟩
    | str x =>
      have e : isAscii x = true := e
      exact ⟨_, show (if isAscii x = true then some _ else none) = some _ by rw [if_pos e]⟩
    | tup xs =>
      have e : xs.all (dt n) = true := e
      rw [List.all_eq_true] at e
      obtain ⟨ys, e2, _⟩ := mapO_some (f := toP h n) fun x m => dt_toP (e x m)
      exact ⟨_, show (mapO (toP h n) xs).map PyData.tuple = some _ by rw [e2]; rfl⟩
    | fz _ => cases e
    | ref _ => cases e
    | fn _ => cases e
theorem eqvs {f g : D → Option PyData} {xs ys : List D} {ps qs : List PyData} (k : ∀ x ∈ xs, ∀ y ∈ ys, ∀ p q, f x = some p → g y = some q → PyData.eqv p q = dEq x y) (e1 : mapO f xs = some ps) (e2 : mapO g ys = some qs) :
    PyData.eqvAll ps qs = dEqs xs ys := by
  induction xs generalizing ys ps qs with
  | nil =>
    cases e1
    cases ys with
    | nil => cases e2; simp [PyData.eqvAll, dEqs]
    | cons y ys =>
      rw [mapO] at e2
      split at e2
      · cases e2; simp [PyData.eqvAll, dEqs]
      · cases e2
  | cons x xs ih =>
    rw [mapO] at e1
    split at e1
    · rename_i p ps' a1 a2
      cases e1
      cases ys with
      | nil => cases e2; simp [PyData.eqvAll, dEqs]
      | cons y ys =>
        rw [mapO] at e2
        split at e2
        · rename_i q qs' b1 b2
          cases e2
          rw [PyData.eqvAll, k x List.mem_cons_self y List.mem_cons_self p q a1 b1, ih (fun x m y m2 => k x (List.mem_cons_of_mem _ m) y (List.mem_cons_of_mem _ m2)) a2 b2]
          rw [dEqs]
        · cases e2
    · cases e1
theorem eqv_dt : ∀ {n m : Nat} {d e : D} {p q : PyData}, dt n d = true → dt m e = true → toP h n d = some p → toP h m e = some q → PyData.eqv p q = dEq d e
  | 0, _, _, _, _, _, a, _, _, _ => by cases a
  | _ + 1, 0, _, _, _, _, _, b, _, _ => by cases b
  | n + 1, m + 1, d, e, p, q, a, b, ep, eq => by
    have str : ∀ {k : Nat} {x : Tx} {p : PyData}, toP h (k + 1) (.str x) = some p → p = .str ⟨x.toArray⟩ := fun {k x p} e => by
      have e : (if isAscii x = true then some (PyData.str ⟨x.toArray⟩) else none) = some p := e
      split at e
      · exact (Option.some.inj e).symm
      · cases e
    have tup : ∀ {k : Nat} {xs : List D} {p : PyData}, toP h (k + 1) (.tup xs) = some p → ∃ ps, mapO (toP h k) xs = some ps ∧ p = .tuple ps := fun {k xs p} e => by
      obtain ⟨ps, e1, e2⟩ := Option.map_eq_some_iff.mp (show (mapO (toP h k) xs).map PyData.tuple = some p from e)
      exact ⟨ps, e1, e2.symm⟩
    cases d with
    | fz _ => cases a
    | ref _ => cases a
    | fn _ => cases a
    | tup xs =>
      obtain ⟨ps, e1, rfl⟩ := tup ep
      cases e with
      | fz _ => cases b
      | ref _ => cases b
      | fn _ => cases b
      | tup ys =>
        obtain ⟨qs, e2, rfl⟩ := tup eq
        have a : xs.all (dt n) = true := a
        have b : ys.all (dt m) = true := b
        rw [List.all_eq_true] at a b
        show PyData.eqv (.tuple ps) (.tuple qs) = dEqs xs ys
        rw [PyData.eqv]
        exact eqvs (fun x mx y my p q ex ey => eqv_dt (a x mx) (b y my) ex ey) e1 e2
      | str y => cases str eq; simp [PyData.eqv, dEq]
      | non => cases eq; simp [PyData.eqv, dEq]
      | bl _ => cases eq; simp [PyData.eqv, dEq]
      | int _ => cases eq; simp [PyData.eqv, dEq]
    | str x =>
      cases str ep
      cases e with
      | fz _ => cases b
      | ref _ => cases b
      | fn _ => cases b
      | tup ys =>
        obtain ⟨qs, e2, rfl⟩ := tup eq
        simp [PyData.eqv, dEq]
      | str y =>
        cases str eq
        rw [PyData.eqv, dEq]
        exact st_eq x y
      | non => cases eq; simp [PyData.eqv, dEq]
      | bl _ => cases eq; simp [PyData.eqv, dEq]
      | int _ => cases eq; simp [PyData.eqv, dEq]
    | _ =>
      cases ep
      cases e with
      | fz _ => cases b
      | ref _ => cases b
      | fn _ => cases b
      | tup ys =>
        obtain ⟨qs, e2, rfl⟩ := tup eq
        simp [PyData.eqv, dEq]
      | str y => cases str eq; simp [PyData.eqv, dEq]
      | _ => cases eq; simp [PyData.eqv, dEq]
theorem eqR_dt {d e : D} (a : dt 62 d = true) (b : dt 62 e = true) : eqR h (.v d) (.v e) = some (dEq d e) := by
  obtain ⟨p, e1⟩ := dt_toP (h := h) a
  obtain ⟨q, e2⟩ := dt_toP (h := h) b
  unfold eqR
  rw [show RV.toP h (.v d) = some p from e1, show RV.toP h (.v e) = some q from e2]
  dsimp only
  rw [eqv_dt a b e1 e2]
theorem eqF_dt {d e : D} (a : dt 62 d = true) (b : dt 62 e = true) : eqF h (.v d) (.v e) = some (dEq d e) := by
  have e1 : RV.lst? h (.v d) = none := by
    cases d with
    | fz _ => cases a
    | ref _ => cases a
    | _ => rfl
  unfold eqF
  rw [e1]
  exact eqR_dt a b
theorem c_eqd {d e : D} (a : dt 62 d = true) (b : dt 62 e = true) : copB .eq (.v d) (.v e) h = some (dEq d e) := eqF_dt a b
theorem c_ned {d e : D} (a : dt 62 d = true) (b : dt 62 e = true) : copB .ne (.v d) (.v e) h = some (!dEq d e) := by
  show (eqF h (.v d) (.v e)).map (!·) = _
  rw [eqF_dt a b]; rfl
end
theorem dEqs_length : ∀ {xs ys : List D}, dEqs xs ys = true → xs.length = ys.length
  | [], [], _ => rfl
  | [], _ :: _, h => by cases h
  | _ :: _, [], h => by cases h
  | x :: xs, y :: ys, h => by
    rw [dEqs, Bool.and_eq_true] at h
    exact congrArg (· + 1) (dEqs_length h.2)
@[simp] theorem dEqs_nil {ys : List D} : dEqs ys [] = ys.isEmpty := by
  cases ys <;> rfl
/-! ### values -/
/-- small letters -/
def isAz (x : Tx) : Bool := x.all fun c => decide (97 ≤ c) && decide (c ≤ 122)
theorem az_ascii {x : Tx} (h : isAz x = true) : isAscii x = true := by
  unfold isAz at h
  unfold isAscii
  rw [List.all_eq_true] at h ⊢
  intro c m
  have := h c m
  simp only [Bool.and_eq_true, decide_eq_true_eq] at this
  exact decide_eq_true (by omega)
theorem az_app {x y : Tx} : isAz (x ++ y) = (isAz x && isAz y) := by unfold isAz; rw [List.all_append]
theorem c_eqs {x y : Tx} {h : Hm} (a : isAscii x = true) (b : isAscii y = true) : copB .eq (.v (.str x)) (.v (.str y)) h = some (decide (x = y)) := by
  rw [c_eqd (show dt 62 (.str x) = true from a) (show dt 62 (.str y) = true from b)]
  rfl
theorem c_nes {x y : Tx} {h : Hm} (a : isAscii x = true) (b : isAscii y = true) : copB .ne (.v (.str x)) (.v (.str y)) h = some (!decide (x = y)) := by
  rw [c_ned (show dt 62 (.str x) = true from a) (show dt 62 (.str y) = true from b)]
  rfl
theorem mapO_length {α β : Type} {f : α → Option β} : ∀ {xs : List α} {ys : List β}, mapO f xs = some ys → ys.length = xs.length
  | [], ys, e => by cases e; rfl
  | x :: xs, ys, e => by
    rw [mapO] at e
    split at e
    · rename_i y zs _ e2
      cases e
      rw [List.length_cons, List.length_cons, mapO_length e2]
    · cases e
/-- d in (..) -/
theorem c_int {d : D} {ds : List D} {h : Hm} (a : dt 62 d = true) (b : dt 62 (.tup ds) = true) : copB .inn (.v d) (.v (.tup ds)) h = some (ds.any fun z => dEq z d) := by
  have k : inAny h (.v d) (.v (.tup ds)) = inF h (.v d) (.v (.tup ds)) := by
    unfold inAny
    split
    · rename_i q; cases q
    · rename_i q; cases q
    · rfl
  show inAny h (.v d) (.v (.tup ds)) = _
  rw [k]
  obtain ⟨p, e1⟩ := dt_toP (h := h) a
  have b' : ds.all (dt 61) = true := b
  rw [List.all_eq_true] at b'
  obtain ⟨qs, e2, _⟩ := mapO_some (f := toP h 61) fun x m => dt_toP (b' x m)
  have e3 : RV.toP h (.v (.tup ds)) = some (.tuple qs) := by
    show (mapO (toP h 61) ds).map PyData.tuple = _
    rw [e2]; rfl
  unfold inF
  rw [show RV.toP h (.v d) = some p from e1, e3]
  dsimp only
  congr 1
  clear e3 b k
  induction ds generalizing qs with
  | nil => cases e2; rfl
  | cons x xs ih =>
    rw [mapO] at e2
    split at e2
    · rename_i y ys f1 f2
      cases e2
      rw [List.any_cons, List.any_cons, eqv_dt (b' x List.mem_cons_self) a f1 e1, ih (fun z m => b' z (List.mem_cons_of_mem _ m)) ys f2 (mapO_length f2)]
    · cases e2
mutual
inductive Vl where
  | num (i : Int) | txt (x : Tx) | tru (b : Bool) | lst (vs : Vls) | rcd (fs : Fls)
inductive Vls where
  | nil | cons (v : Vl) (r : Vls)
inductive Fls where
  | nil | cons (x : Tx) (v : Vl) (r : Fls)
end
instance : Inhabited Vl := ⟨.num 0⟩
def Vls.toL : Vls → List Vl
  | .nil => []
  | .cons v r => v :: r.toL
def Fls.toL : Fls → List (Tx × Vl)
  | .nil => []
  | .cons x v r => (x, v) :: r.toL
def Vls.of : List Vl → Vls
  | [] => .nil
  | v :: r => .cons v (.of r)
def Fls.of : List (Tx × Vl) → Fls
  | [] => .nil
  | p :: r => .cons p.1 p.2 (.of r)
theorem Vls.toL_of : ∀ l : List Vl, (Vls.of l).toL = l
  | [] => rfl
  | v :: r => congrArg (v :: ·) (Vls.toL_of r)
theorem Fls.toL_of : ∀ l : List (Tx × Vl), (Fls.of l).toL = l
  | [] => rfl
  | p :: r => congrArg (p :: ·) (Fls.toL_of r)
theorem Vls.of_toL : ∀ l : Vls, Vls.of l.toL = l
  | .nil => rfl
  | .cons v r => by rw [Vls.toL, Vls.of, Vls.of_toL r]
theorem Fls.of_toL : ∀ l : Fls, Fls.of l.toL = l
  | .nil => rfl
  | .cons x v r => by rw [Fls.toL, Fls.of, Fls.of_toL r]
def tList : Tx := [108, 105, 115, 116]
def tRec : Tx := [114, 101, 99, 111, 114, 100]
mutual
def Vl.enc : Vl → D
  | .num i => .int i
  | .txt x => .str x
  | .tru b => .bl b
  | .lst vs => .tup [.str tList, .tup vs.encs]
  | .rcd fs => .tup [.str tRec, .tup fs.encs]
def Vls.encs : Vls → List D
  | .nil => []
  | .cons v r => v.enc :: r.encs
def Fls.encs : Fls → List D
  | .nil => []
  | .cons x v r => .tup [.str x, v.enc] :: r.encs
end
theorem Vls.encs_eq : ∀ vs : Vls, vs.encs = vs.toL.map Vl.enc
  | .nil => rfl
  | .cons v r => by rw [Vls.encs, Vls.toL, List.map_cons, Vls.encs_eq r]
theorem Fls.encs_eq : ∀ vs : Fls, vs.encs = vs.toL.map fun p => .tup [.str p.1, p.2.enc]
  | .nil => rfl
  | .cons x v r => by rw [Fls.encs, Fls.toL, List.map_cons, Fls.encs_eq r]
mutual
/-- at most n deep, at most w wide, texts of plain signs of at most w -/
def Vl.ok (w : Nat) : Nat → Vl → Bool
  | n, .num _ => decide (0 < n)
  | n, .txt x => decide (0 < n) && (isAz x && decide (x.length ≤ w))
  | n, .tru _ => decide (0 < n)
  | n, .lst vs => decide (0 < n) && (decide (vs.toL.length ≤ w) && Vls.ok w (n - 1) vs)
  | n, .rcd fs => decide (0 < n) && (decide (fs.toL.length ≤ w) && Fls.ok w (n - 1) fs)
def Vls.ok (w : Nat) : Nat → Vls → Bool
  | _, .nil => true
  | n, .cons v r => Vl.ok w n v && Vls.ok w n r
def Fls.ok (w : Nat) : Nat → Fls → Bool
  | _, .nil => true
  | n, .cons x v r => (isAz x && decide (x.length ≤ w)) && (Vl.ok w n v && Fls.ok w n r)
end
theorem Vls.ok_iff {w n : Nat} : ∀ {vs : Vls}, Vls.ok w n vs = true ↔ ∀ v ∈ vs.toL, Vl.ok w n v = true
  | .nil => by simp [Vls.ok, Vls.toL]
  | .cons v r => by
    rw [Vls.ok, Bool.and_eq_true, Vls.ok_iff (vs := r), Vls.toL]
    simp
theorem Fls.ok_iff {w n : Nat} : ∀ {vs : Fls}, Fls.ok w n vs = true ↔ ∀ p ∈ vs.toL, isAz p.1 = true ∧ p.1.length ≤ w ∧ Vl.ok w n p.2 = true
  | .nil => by simp [Fls.ok, Fls.toL]
  | .cons x v r => by
    rw [Fls.ok, Bool.and_eq_true, Bool.and_eq_true, Bool.and_eq_true, Fls.ok_iff (vs := r), Fls.toL, decide_eq_true_eq]
    simp [and_assoc]
/-- d is a value at most n deep, w wide -/
def Gv (w n : Nat) (d : D) : Prop := ∃ v : Vl, d = v.enc ∧ v.ok w n = true
theorem Vl.ok_pos {w n : Nat} {v : Vl} (h : v.ok w n = true) : 0 < n := by
  cases v <;> rw [Vl.ok] at h <;> simp at h <;> omega
theorem Vl.ok_up {w w' : Nat} (hw : w ≤ w') : ∀ {n m : Nat} {v : Vl}, n ≤ m → v.ok w n = true → v.ok w' m = true := by
  intro n
  induction n with
  | zero => intro m v _ h; exact absurd (Vl.ok_pos h) (Nat.lt_irrefl _)
  | succ n ih =>
    intro m v l h
    cases v with
    | num i => rw [Vl.ok]; simp; omega
    | tru i => rw [Vl.ok]; simp; omega
    | txt x =>
      rw [Vl.ok] at h ⊢
      simp at h ⊢
      exact ⟨by omega, h.1, by omega⟩
    | lst vs =>
      rw [Vl.ok] at h ⊢
      simp only [Bool.and_eq_true, decide_eq_true_eq, Nat.add_sub_cancel] at h ⊢
      refine ⟨by omega, by omega, ?_⟩
      have h2 := Vls.ok_iff.mp h.2.2
      exact Vls.ok_iff.mpr fun v mv => ih (by omega) (h2 v mv)
    | rcd fs =>
      rw [Vl.ok] at h ⊢
      simp only [Bool.and_eq_true, decide_eq_true_eq, Nat.add_sub_cancel] at h ⊢
      refine ⟨by omega, by omega, ?_⟩
      have h2 := Fls.ok_iff.mp h.2.2
      exact Fls.ok_iff.mpr fun p mv => ⟨(h2 p mv).1, by have := (h2 p mv).2.1; omega, ih (by omega) (h2 p mv).2.2⟩
theorem Gv.up {w w' n m : Nat} {d : D} (g : Gv w n d) (hw : w ≤ w') (hn : n ≤ m) : Gv w' m d := by
  obtain ⟨v, e, o⟩ := g
  exact ⟨v, e, Vl.ok_up hw hn o⟩
theorem Gv.num {w n : Nat} (hn : 0 < n) (i : Int) : Gv w n (.int i) := ⟨.num i, rfl, by rw [Vl.ok]; simpa using hn⟩
theorem Gv.tru {w n : Nat} (hn : 0 < n) (i : Bool) : Gv w n (.bl i) := ⟨.tru i, rfl, by rw [Vl.ok]; simpa using hn⟩
theorem Gv.txt {w n : Nat} (hn : 0 < n) {x : Tx} (a : isAz x = true) (l : x.length ≤ w) : Gv w n (.str x) := ⟨.txt x, rfl, by rw [Vl.ok]; simp [a, l, hn]⟩
theorem gvs_of {w n : Nat} : ∀ {ds : List D}, (∀ d ∈ ds, Gv w n d) → ∃ vs : Vls, ds = vs.encs ∧ Vls.ok w n vs = true ∧ vs.toL.length = ds.length
  | [], _ => ⟨.nil, rfl, rfl, rfl⟩
  | d :: ds, h => by
    obtain ⟨v, e, o⟩ := h d List.mem_cons_self
    obtain ⟨vs, e2, o2, l⟩ := gvs_of fun x m => h x (List.mem_cons_of_mem _ m)
    exact ⟨.cons v vs, by rw [Vls.encs, ← e, ← e2], by rw [Vls.ok, o, o2]; rfl, by rw [Vls.toL, List.length_cons, l]; rfl⟩
/-- a field -/
def Gf (w n : Nat) (d : D) : Prop := ∃ (x : Tx) (v : D), d = .tup [.str x, v] ∧ isAz x = true ∧ x.length ≤ w ∧ Gv w n v
theorem gfs_of {w n : Nat} : ∀ {ds : List D}, (∀ d ∈ ds, Gf w n d) → ∃ vs : Fls, ds = vs.encs ∧ Fls.ok w n vs = true ∧ vs.toL.length = ds.length
  | [], _ => ⟨.nil, rfl, rfl, rfl⟩
  | d :: ds, h => by
    obtain ⟨x, y, e, ax, lx, v, e1, o⟩ := h d List.mem_cons_self
    obtain ⟨vs, e2, o2, l⟩ := gfs_of fun x m => h x (List.mem_cons_of_mem _ m)
    exact ⟨.cons x v vs, by rw [Fls.encs, ← e1, ← e, ← e2], by rw [Fls.ok, o, o2, ax, decide_eq_true lx]; rfl, by rw [Fls.toL, List.length_cons, l]; rfl⟩
theorem Gv.lst {w n : Nat} {ds : List D} (g : ∀ d ∈ ds, Gv w n d) (l : ds.length ≤ w) : Gv w (n + 1) (.tup [.str tList, .tup ds]) := by
  obtain ⟨vs, e, o, l2⟩ := gvs_of g
  refine ⟨.lst vs, by rw [Vl.enc, e], ?_⟩
  rw [Vl.ok, Nat.add_sub_cancel, o, l2]
  simp [l]
theorem Gv.rcd {w n : Nat} {ds : List D} (g : ∀ d ∈ ds, Gf w n d) (l : ds.length ≤ w) : Gv w (n + 1) (.tup [.str tRec, .tup ds]) := by
  obtain ⟨vs, e, o, l2⟩ := gfs_of g
  refine ⟨.rcd vs, by rw [Vl.enc, e], ?_⟩
  rw [Vl.ok, Nat.add_sub_cancel, o, l2]
  simp [l]
/-- what a value is -/
inductive Is (w : Nat) : Nat → D → Prop
  | num {n : Nat} (i : Int) : Is w (n + 1) (.int i)
  | tru {n : Nat} (b : Bool) : Is w (n + 1) (.bl b)
  | txt {n : Nat} (x : Tx) (a : isAz x = true) (l : x.length ≤ w) : Is w (n + 1) (.str x)
  | lst {n : Nat} (ds : List D) (g : ∀ d ∈ ds, Gv w n d) (l : ds.length ≤ w) : Is w (n + 1) (.tup [.str tList, .tup ds])
  | rcd {n : Nat} (ds : List D) (g : ∀ d ∈ ds, Gf w n d) (l : ds.length ≤ w) : Is w (n + 1) (.tup [.str tRec, .tup ds])
theorem Gv.is {w n : Nat} {d : D} (g : Gv w n d) : Is w n d := by
  obtain ⟨v, rfl, o⟩ := g
  have hp := Vl.ok_pos o
  obtain ⟨n, rfl⟩ : ∃ m, n = m + 1 := ⟨n - 1, by omega⟩
  cases v with
  | num i => exact .num i
  | tru b => exact .tru b
  | txt x =>
    rw [Vl.ok] at o
    simp at o
    exact .txt x o.1 o.2
  | lst vs =>
    rw [Vl.ok] at o
    simp only [Bool.and_eq_true, decide_eq_true_eq, Nat.add_sub_cancel] at o
    rw [Vl.enc]
    refine .lst _ (fun d m => ?_) (by rw [Vls.encs_eq, List.length_map]; exact o.2.1)
    rw [Vls.encs_eq] at m
    obtain ⟨v, mv, rfl⟩ := List.mem_map.mp m
    exact ⟨v, rfl, Vls.ok_iff.mp o.2.2 v mv⟩
  | rcd fs =>
    rw [Vl.ok] at o
    simp only [Bool.and_eq_true, decide_eq_true_eq, Nat.add_sub_cancel] at o
    rw [Vl.enc]
    refine .rcd _ (fun d m => ?_) (by rw [Fls.encs_eq, List.length_map]; exact o.2.1)
    rw [Fls.encs_eq] at m
    obtain ⟨p, mv, rfl⟩ := List.mem_map.mp m
    obtain ⟨a, b, c⟩ := Fls.ok_iff.mp o.2.2 p mv
    exact ⟨_, _, rfl, a, b, p.2, rfl, c⟩
theorem Gv.dt : ∀ {n w : Nat} {d : D}, Gv w n d → MP.dt (3 * n) d = true
  | 0, w, d, g => by
    obtain ⟨v, e, o⟩ := g
    exact absurd (Vl.ok_pos o) (Nat.lt_irrefl _)
  | n + 1, w, d, g => by
    cases g.is with
    | num i => rfl
    | tru b => rfl
    | txt x a l => exact az_ascii a
    | lst ds gd l =>
      show ([D.str tList, .tup ds].all (MP.dt (3 * n + 2))) = true
      rw [List.all_cons, List.all_cons]
      have e1 : MP.dt (3 * n + 2) (.str tList) = true := rfl
      have e2 : MP.dt (3 * n + 2) (.tup ds) = true := by
        show ds.all (MP.dt (3 * n + 1)) = true
        rw [List.all_eq_true]
        exact fun x m => dt_up (by omega) (gd x m).dt
      rw [e1, e2]; rfl
    | rcd ds gd l =>
      show ([D.str tRec, .tup ds].all (MP.dt (3 * n + 2))) = true
      rw [List.all_cons, List.all_cons]
      have e1 : MP.dt (3 * n + 2) (.str tRec) = true := rfl
      have e2 : MP.dt (3 * n + 2) (.tup ds) = true := by
        show ds.all (MP.dt (3 * n + 1)) = true
        rw [List.all_eq_true]
        intro x m
        obtain ⟨y, v, rfl, a, b, gv⟩ := gd x m
        have gd2 := gv.dt
        have hn : 0 < n := by
          obtain ⟨v, e, o⟩ := gv
          exact Vl.ok_pos o
        show ([D.str y, v].all (MP.dt (3 * n))) = true
        rw [List.all_cons, List.all_cons, gd2]
        obtain ⟨k, rfl⟩ : ∃ m, n = m + 1 := ⟨n - 1, by omega⟩
        have e3 : MP.dt (3 * (k + 1)) (.str y) = true := az_ascii a
        rw [e3]; rfl
      rw [e1, e2]; rfl
theorem Gv.dt62 {n w : Nat} {d : D} (g : Gv w n d) (hn : n ≤ 20) : MP.dt 62 d = true := dt_up (by omega) g.dt
theorem Gv.cl : ∀ {n w : Nat} {d : D}, Gv w n d → ∀ m, d.cl m = true
  | 0, w, d, g, _ => by
    obtain ⟨v, e, o⟩ := g
    exact absurd (Vl.ok_pos o) (Nat.lt_irrefl _)
  | n + 1, w, d, g, m => by
    have cls : ∀ {ds : List D}, (∀ d ∈ ds, d.cl m = true) → D.cls m ds = true := fun {ds} h => by
      induction ds with
      | nil => rfl
      | cons d ds ih => rw [D.cls, h d List.mem_cons_self, ih fun x y => h x (List.mem_cons_of_mem _ y)]; rfl
    cases g.is with
    | num i => rfl
    | tru b => rfl
    | txt x a l => rfl
    | lst ds gd l =>
      have e := cls fun d md => (gd d md).cl m
      simp [D.cl, D.cls, e]
    | rcd ds gd l =>
      have e := cls (ds := ds) fun d md => by
        obtain ⟨y, v, rfl, _, _, gv⟩ := gd d md
        simp [D.cl, D.cls, gv.cl m]
      simp [D.cl, D.cls, e]
theorem Gv.tm : ∀ {n w : Nat} {d : D}, Gv w n d → ∀ h, Tm h d = true
  | 0, w, d, g, _ => by
    obtain ⟨v, e, o⟩ := g
    exact absurd (Vl.ok_pos o) (Nat.lt_irrefl _)
  | n + 1, w, d, g, m => by
    cases g.is with
    | num i => rfl
    | tru b => rfl
    | txt x a l => rfl
    | lst ds gd l =>
      have e := tms_of fun d md => (gd d md).tm m
      simp [Tm, Tms, e]
    | rcd ds gd l =>
      have e := tms_of (ds := ds) (h := m) fun d md => by
        obtain ⟨y, v, rfl, _, _, gv⟩ := gd d md
        simp [Tm, Tms, gv.tm m]
      simp [Tm, Tms, e]
end MP

/-! MK: keys of values, two alike. -/
namespace MP
open PySem
/-- a comprehension that only reckons -/
theorem sat_compM {α : Type} {step : D → Hm → Res (Option D)} {h : Hm} {Q : List D → Hm → Prop} (ys : List α) (g f : α → D)
    (st : ∀ x ∈ ys, ∀ Q : Option D → Hm → Prop, Q (some (f x)) h → Sat (step (g x) h) Q) (fin : Q (ys.map f) h) : Sat (compL step [] (ys.map g) h) Q := by
  refine sat_compX (fun i acc h' => acc = (ys.take i).map f ∧ h' = h) ⟨rfl, rfl⟩ ?_ ?_
  · intro i x acc h' e z
    obtain ⟨rfl, rfl⟩ := z
    rw [List.getElem?_map] at e
    obtain ⟨y, ey, rfl⟩ := Option.map_eq_some_iff.mp e
    refine ⟨hc_nil, st y (List.mem_of_getElem? ey) _ ⟨?_, rfl⟩⟩
    obtain ⟨l, el⟩ := List.getElem?_eq_some_iff.mp ey
    rw [List.take_succ_eq_append_getElem l, el, List.map_append]
    rfl
  · intro acc h' z
    obtain ⟨rfl, rfl⟩ := z
    rw [List.length_map, List.take_length]
    exact ⟨hc_nil, fin⟩
@[simp] theorem b2i_f : b2i false = 0 := rfl
@[simp] theorem b2i_t : b2i true = 1 := rfl
mutual
def Vl.kd : Vl → D
  | .tru b => .tup [.int 2, .int (b2i b)]
  | .num i => .tup [.int 0, .int i.natAbs, .int (b2i (decide (i < 0)))]
  | .txt x => .tup [.int 1, .int x.length, .str x]
  | .lst vs => .tup [.int 3, .int vs.kds.length, .tup vs.kds]
  | .rcd fs => .tup [.int 4, .int fs.kds.length, .tup fs.nms, .tup fs.kds]
def Vls.kds : Vls → List D
  | .nil => []
  | .cons v r => v.kd :: r.kds
def Fls.kds : Fls → List D
  | .nil => []
  | .cons _ v r => v.kd :: r.kds
def Fls.nms : Fls → List D
  | .nil => []
  | .cons x _ r => .str x :: r.nms
end
mutual
def Vl.sm : Vl → Vl → Bool
  | .tru b, w => (match w with
    | .tru c => b == c
    | _ => false)
  | .num i, w => (match w with
    | .num j => i == j
    | _ => false)
  | .txt x, w => (match w with
    | .txt y => decide (x = y)
    | _ => false)
  | .lst vs, w => (match w with
    | .lst ws => Vls.sm vs ws
    | _ => false)
  | .rcd fs, w => (match w with
    | .rcd gs => Fls.sm fs gs
    | _ => false)
def Vls.sm : Vls → Vls → Bool
  | .nil, ws => (match ws with
    | .nil => true
    | _ => false)
  | .cons v r, ws => (match ws with
    | .cons w s => Vl.sm v w && Vls.sm r s
    | _ => false)
def Fls.sm : Fls → Fls → Bool
  | .nil, ws => (match ws with
    | .nil => true
    | _ => false)
  | .cons x v r, ws => (match ws with
    | .cons y w s => decide (x = y) && (Vl.sm v w && Fls.sm r s)
    | _ => false)
end
mutual
theorem Vl.sm_iff : ∀ v w : Vl, v.sm w = true ↔ v = w
  | .tru b, w => by cases w <;> simp [Vl.sm]
  | .num b, w => by cases w <;> simp [Vl.sm]
  | .txt b, w => by cases w <;> simp [Vl.sm]
  | .lst vs, w => by
    cases w with
    | lst ws => rw [Vl.sm]; simp [Vls.sm_iff vs ws]
    | _ => simp [Vl.sm]
  | .rcd vs, w => by
    cases w with
    | rcd ws => rw [Vl.sm]; simp [Fls.sm_iff vs ws]
    | _ => simp [Vl.sm]
theorem Vls.sm_iff : ∀ v w : Vls, v.sm w = true ↔ v = w
  | .nil, w => by cases w <;> simp [Vls.sm]
  | .cons v r, w => by
    cases w with
    | nil => simp [Vls.sm]
    | cons w s => rw [Vls.sm]; simp [Vl.sm_iff v w, Vls.sm_iff r s]
theorem Fls.sm_iff : ∀ v w : Fls, v.sm w = true ↔ v = w
  | .nil, w => by cases w <;> simp [Fls.sm]
  | .cons x v r, w => by
    cases w with
    | nil => simp [Fls.sm]
    | cons y w s => rw [Fls.sm]; simp [Vl.sm_iff v w, Fls.sm_iff r s]
end
theorem Vl.sm_self (v : Vl) : v.sm v = true := (Vl.sm_iff v v).mpr rfl
theorem Vl.sm_symm (v w : Vl) : v.sm w = w.sm v := by
  rw [Bool.eq_iff_iff, Vl.sm_iff, Vl.sm_iff]
  exact eq_comm
/-! keys -/
theorem dEq_int {i j : Int} : dEq (.int i) (.int j) = (i == j) := by simp [dEq]
theorem dEqs_cons {x y : D} {xs ys : List D} : dEqs (x :: xs) (y :: ys) = (dEq x y && dEqs xs ys) := by simp [dEqs]
theorem dEq_tup {xs ys : List D} : dEq (.tup xs) (.tup ys) = dEqs xs ys := by simp [dEq]
theorem dEq_str {x y : Tx} : dEq (.str x) (.str y) = decide (x = y) := by simp [dEq]
theorem Vls.kds_eq : ∀ vs : Vls, vs.kds = vs.toL.map Vl.kd
  | .nil => by simp [Vls.kds, Vls.toL]
  | .cons v r => by rw [Vls.kds, Vls.toL, List.map_cons, Vls.kds_eq r]
theorem Fls.kds_eq : ∀ vs : Fls, vs.kds = vs.toL.map fun p => p.2.kd
  | .nil => by simp [Fls.kds, Fls.toL]
  | .cons x v r => by rw [Fls.kds, Fls.toL, List.map_cons, Fls.kds_eq r]
theorem Fls.nms_eq : ∀ vs : Fls, vs.nms = vs.toL.map fun p => D.str p.1
  | .nil => by simp [Fls.nms, Fls.toL]
  | .cons x v r => by rw [Fls.nms, Fls.toL, List.map_cons, Fls.nms_eq r]
theorem and_len {b : Bool} {n m : Nat} (h : b = true → n = m) : (((n : Int) == (m : Int)) && b) = b := by
  cases b with
  | false => simp
  | true => simp [h rfl]
mutual
theorem Vl.kd_eq : ∀ v w : Vl, dEq v.kd w.kd = v.sm w
  | .tru b, w => by
    cases w with
    | tru c => cases b <;> cases c <;> simp [Vl.kd, Vl.sm, dEq, dEqs]
    | _ => simp [Vl.kd, Vl.sm, dEq, dEqs]
  | .num i, w => by
    cases w with
    | num j =>
      simp only [Vl.kd, Vl.sm, dEq_tup, dEqs_cons, dEq_int]
      rw [Bool.eq_iff_iff]
      by_cases a : i < 0 <;> by_cases b : j < 0 <;> simp [a, b, dEqs] <;> omega
    | _ => simp [Vl.kd, Vl.sm, dEq, dEqs]
  | .txt x, w => by
    cases w with
    | txt y =>
      simp only [Vl.kd, Vl.sm, dEq_tup, dEqs_cons, dEq_int, dEq_str]
      rw [Bool.eq_iff_iff]
      simp [dEqs]
      rintro rfl
      rfl
    | _ => simp [Vl.kd, Vl.sm, dEq, dEqs]
  | .lst vs, w => by
    cases w with
    | lst ws =>
      simp only [Vl.kd, Vl.sm, dEq_tup, dEqs_cons, dEq_int]
      rw [show dEqs vs.kds ws.kds = vs.sm ws from Vls.kd_eq vs ws]
      simp only [dEqs, Bool.and_true, beq_self_eq_true, Bool.true_and]
      refine and_len fun e => ?_
      rw [(Vls.sm_iff vs ws).mp e]
    | _ => simp [Vl.kd, Vl.sm, dEq, dEqs]
  | .rcd vs, w => by
    cases w with
    | rcd ws =>
      simp only [Vl.kd, Vl.sm, dEq_tup, dEqs_cons, dEq_int]
      simp only [dEqs, Bool.and_true, beq_self_eq_true, Bool.true_and]
      rw [show (dEqs vs.nms ws.nms && dEqs vs.kds ws.kds) = vs.sm ws from Fls.kd_eq vs ws]
      refine and_len fun e => ?_
      rw [(Fls.sm_iff vs ws).mp e]
    | _ => simp [Vl.kd, Vl.sm, dEq, dEqs]
theorem Vls.kd_eq : ∀ v w : Vls, dEqs v.kds w.kds = v.sm w
  | .nil, w => by cases w <;> simp [Vls.sm, Vls.kds, dEqs]
  | .cons v r, w => by
    cases w with
    | nil => simp [Vls.sm, Vls.kds]
    | cons w s => rw [Vls.kds, Vls.kds, Vls.sm, dEqs_cons, Vl.kd_eq v w, Vls.kd_eq r s]
theorem Fls.kd_eq : ∀ v w : Fls, (dEqs v.nms w.nms && dEqs v.kds w.kds) = v.sm w
  | .nil, w => by cases w <;> simp [Fls.sm, Fls.kds, Fls.nms, dEqs]
  | .cons x v r, w => by
    cases w with
    | nil => simp [Fls.sm, Fls.kds, Fls.nms]
    | cons y w s =>
      rw [Fls.kds, Fls.kds, Fls.nms, Fls.nms, Fls.sm, dEqs_cons, dEqs_cons, dEq_str, Vl.kd_eq v w, ← Fls.kd_eq r s]
      cases decide (x = y) <;> cases v.sm w <;> simp
end
theorem Vl.dt_kd : ∀ {n w : Nat} {v : Vl}, v.ok w n = true → dt (2 * n) v.kd = true
  | 0, w, v, o => absurd (Vl.ok_pos o) (Nat.lt_irrefl _)
  | n + 1, w, v, o => by
    cases v with
    | tru b => rw [Vl.kd]; rfl
    | num i => rw [Vl.kd]; rfl
    | txt x =>
      rw [Vl.ok] at o
      simp at o
      have e : isAscii x = true := az_ascii o.1
      rw [Vl.kd]
      show ([D.int 1, .int x.length, .str x].all (dt (2 * n + 1))) = true
      simp [dt, e]
    | lst vs =>
      rw [Vl.ok] at o
      simp only [Bool.and_eq_true, decide_eq_true_eq, Nat.add_sub_cancel] at o
      rw [Vl.kd]
      have e2 : dt (2 * n + 1) (.tup vs.kds) = true := by
        show vs.kds.all (dt (2 * n)) = true
        rw [List.all_eq_true, Vls.kds_eq]
        intro x m
        obtain ⟨u, mu, rfl⟩ := List.mem_map.mp m
        exact Vl.dt_kd (Vls.ok_iff.mp o.2.2 u mu)
      show ([D.int 3, .int vs.kds.length, .tup vs.kds].all (dt (2 * n + 1))) = true
      rw [List.all_cons, List.all_cons, List.all_cons, e2]; rfl
    | rcd fs =>
      rw [Vl.ok] at o
      simp only [Bool.and_eq_true, decide_eq_true_eq, Nat.add_sub_cancel] at o
      rw [Vl.kd]
      have f := Fls.ok_iff.mp o.2.2
      have e2 : dt (2 * n + 1) (.tup fs.kds) = true := by
        show fs.kds.all (dt (2 * n)) = true
        rw [List.all_eq_true, Fls.kds_eq]
        intro x m
        obtain ⟨u, mu, rfl⟩ := List.mem_map.mp m
        exact Vl.dt_kd (f u mu).2.2
      have e3 : dt (2 * n + 1) (.tup fs.nms) = true := by
        show fs.nms.all (dt (2 * n)) = true
        rw [List.all_eq_true, Fls.nms_eq]
        intro x m
        obtain ⟨u, mu, rfl⟩ := List.mem_map.mp m
        have hp := Vl.ok_pos (f u mu).2.2
        obtain ⟨k, rfl⟩ : ∃ k, n = k + 1 := ⟨n - 1, by omega⟩
        exact az_ascii (f u mu).1
      show ([D.int 4, .int fs.kds.length, .tup fs.nms, .tup fs.kds].all (dt (2 * n + 1))) = true
      rw [List.all_cons, List.all_cons, List.all_cons, List.all_cons, e2, e3]; rfl
theorem dt_cl : ∀ {n : Nat} {d : D}, dt n d = true → ∀ m, d.cl m = true
  | 0, _, e, _ => by cases e
  | n + 1, d, e, m => by
    cases d with
    | tup xs =>
      have e : xs.all (dt n) = true := e
      rw [List.all_eq_true] at e
      have go : ∀ ys : List D, (∀ y ∈ ys, dt n y = true) → D.cls m ys = true := fun ys => by
        induction ys with
        | nil => intro _; rfl
        | cons y ys ih => intro g; rw [D.cls, dt_cl (g y List.mem_cons_self) m, ih fun z mz => g z (List.mem_cons_of_mem _ mz)]; rfl
      rw [D.cl]
      exact go xs e
    | non => rfl
    | bl _ => rfl
    | int _ => rfl
    | str _ => rfl
    | fz _ => cases e
    | ref _ => cases e
    | fn _ => cases e
/-- data of truths, numbers, texts and rows, none too wide -/
def nice : Nat → D → Bool
  | 0 => fun _ => false
  | n + 1 => fun d => match d with
    | .bl _ => true
    | .int _ => true
    | .str x => isAscii x
    | .tup xs => decide (xs.length ≤ 1000) && xs.all (nice n)
    | _ => false
theorem nice_dt : ∀ {n : Nat} {d : D}, nice n d = true → dt n d = true
  | 0, _, e => by cases e
  | n + 1, d, e => by
    cases d with
    | tup xs =>
      have e : (decide (xs.length ≤ 1000) && xs.all (nice n)) = true := e
      rw [Bool.and_eq_true, List.all_eq_true] at e
      show xs.all (dt n) = true
      rw [List.all_eq_true]
      exact fun x m => nice_dt (e.2 x m)
    | bl _ => rfl
    | int _ => rfl
    | str _ => exact e
    | non => cases e
    | fz _ => cases e
    | ref _ => cases e
    | fn _ => cases e
theorem nice_up : ∀ {n m : Nat} {d : D}, n ≤ m → nice n d = true → nice m d = true
  | 0, _, _, _, h => by cases h
  | n + 1, 0, _, l, _ => by omega
  | n + 1, m + 1, d, l, h => by
    cases d with
    | tup xs =>
      have e : (decide (xs.length ≤ 1000) && xs.all (nice n)) = true := h
      rw [Bool.and_eq_true, List.all_eq_true] at e
      show (decide (xs.length ≤ 1000) && xs.all (nice m)) = true
      rw [Bool.and_eq_true, List.all_eq_true]
      exact ⟨e.1, fun x m => nice_up (by omega) (e.2 x m)⟩
    | _ => exact h
theorem nice_tup {n : Nat} {xs : List D} (l : xs.length ≤ 1000) (g : ∀ x ∈ xs, nice n x = true) : nice (n + 1) (.tup xs) = true := by
  show (decide (xs.length ≤ 1000) && xs.all (nice n)) = true
  rw [Bool.and_eq_true, List.all_eq_true]
  exact ⟨decide_eq_true l, g⟩
theorem nice_mem {n : Nat} {xs : List D} (h : nice (n + 1) (.tup xs) = true) : xs.length ≤ 1000 ∧ ∀ x ∈ xs, nice n x = true := by
  have h : (decide (xs.length ≤ 1000) && xs.all (nice n)) = true := h
  rw [Bool.and_eq_true, List.all_eq_true] at h
  exact ⟨of_decide_eq_true h.1, h.2⟩
theorem Vl.nice : ∀ {n w : Nat} {v : Vl}, v.ok w n = true → w ≤ 1000 → nice (3 * n) v.enc = true
  | 0, w, v, o, _ => absurd (Vl.ok_pos o) (Nat.lt_irrefl _)
  | n + 1, w, v, o, hw => by
    cases v with
    | tru b => rw [Vl.enc]; rfl
    | num i => rw [Vl.enc]; rfl
    | txt x =>
      rw [Vl.ok] at o
      simp at o
      rw [Vl.enc]
      exact az_ascii o.1
    | lst vs =>
      rw [Vl.ok] at o
      simp only [Bool.and_eq_true, decide_eq_true_eq, Nat.add_sub_cancel] at o
      rw [Vl.enc]
      refine nice_tup (n := 3 * n + 2) (by simp) fun x m => ?_
      rcases List.mem_cons.mp m with e | m
      · rw [e]; rfl
      rw [List.mem_singleton.mp m]
      refine nice_tup (by rw [Vls.encs_eq, List.length_map]; omega) fun y my => ?_
      rw [Vls.encs_eq] at my
      obtain ⟨u, mu, rfl⟩ := List.mem_map.mp my
      exact nice_up (by omega) (Vl.nice (Vls.ok_iff.mp o.2.2 u mu) hw)
    | rcd fs =>
      rw [Vl.ok] at o
      simp only [Bool.and_eq_true, decide_eq_true_eq, Nat.add_sub_cancel] at o
      rw [Vl.enc]
      refine nice_tup (n := 3 * n + 2) (by simp) fun x m => ?_
      rcases List.mem_cons.mp m with e | m
      · rw [e]; rfl
      rw [List.mem_singleton.mp m]
      refine nice_tup (n := 3 * n + 1) (by rw [Fls.encs_eq, List.length_map]; omega) fun y my => ?_
      rw [Fls.encs_eq] at my
      obtain ⟨u, mu, rfl⟩ := List.mem_map.mp my
      have f := Fls.ok_iff.mp o.2.2 u mu
      have hp := Vl.ok_pos f.2.2
      refine nice_tup (n := 3 * n) (by simp) fun z mz => ?_
      rcases List.mem_cons.mp mz with e | mz
      · rw [e]
        obtain ⟨k, rfl⟩ : ∃ k, n = k + 1 := ⟨n - 1, by omega⟩
        exact az_ascii f.1
      · rw [List.mem_singleton.mp mz]
        exact Vl.nice f.2.2 hw
/-! two things alike -/
mutual
def alk : D → D → Bool
  | .bl a, e => (match e with
    | .bl b => a == b
    | _ => false)
  | .int a, e => (match e with
    | .int b => a == b
    | _ => false)
  | .str a, e => (match e with
    | .str b => decide (a = b)
    | _ => false)
  | .tup a, e => (match e with
    | .tup b => alks a b
    | _ => false)
  | .non, e => (match e with
    | .non => true
    | _ => false)
  | .fz _, _ => false
  | .ref _, _ => false
  | .fn _, _ => false
def alks : List D → List D → Bool
  | [], ys => (match ys with
    | [] => true
    | _ => false)
  | x :: xs, ys => (match ys with
    | y :: ys => alk x y && alks xs ys
    | _ => false)
end
mutual
theorem Vl.al : ∀ v w : Vl, alk v.enc w.enc = v.sm w
  | .tru b, w => by cases w <;> simp [Vl.enc, alk, Vl.sm]
  | .num b, w => by cases w <;> simp [Vl.enc, alk, Vl.sm]
  | .txt b, w => by cases w <;> simp [Vl.enc, alk, Vl.sm]
  | .lst vs, w => by
    cases w with
    | lst ws => simp [Vl.enc, alk, alks, Vl.sm, Vls.al vs ws]
    | _ => simp [Vl.enc, alk, alks, Vl.sm, tList, tRec]
  | .rcd vs, w => by
    cases w with
    | rcd ws => simp [Vl.enc, alk, alks, Vl.sm, Fls.al vs ws]
    | _ => simp [Vl.enc, alk, alks, Vl.sm, tList, tRec]
theorem Vls.al : ∀ v w : Vls, alks v.encs w.encs = v.sm w
  | .nil, w => by cases w <;> simp [Vls.sm, Vls.encs, alks]
  | .cons v r, w => by
    cases w with
    | nil => simp [Vls.sm, Vls.encs, alks]
    | cons w s => simp [Vls.sm, Vls.encs, alks, Vl.al v w, Vls.al r s]
theorem Fls.al : ∀ v w : Fls, alks v.encs w.encs = v.sm w
  | .nil, w => by cases w <;> simp [Fls.sm, Fls.encs, alks]
  | .cons x v r, w => by
    cases w with
    | nil => simp [Fls.sm, Fls.encs, alks]
    | cons y w s => simp [Fls.sm, Fls.encs, alks, alk, Vl.al v w, Fls.al r s, Bool.and_assoc]
end
theorem alks_at : ∀ {xs ys : List D}, xs.length = ys.length → alks xs ys = ((List.range xs.length).all fun i => match xs[i]?, ys[i]? with
    | some x, some y => alk x y
    | _, _ => false)
  | [], [], _ => by simp [alks]
  | [], _ :: _, h => by cases h
  | _ :: _, [], h => by cases h
  | x :: xs, y :: ys, h => by
    rw [alks, List.length_cons, List.range_succ_eq_map, List.all_cons, List.all_map, alks_at (Nat.succ.inj h)]
    rfl
theorem alks_len : ∀ {xs ys : List D}, alks xs ys = true → xs.length = ys.length
  | [], [], _ => rfl
  | [], _ :: _, h => by simp [alks] at h
  | _ :: _, [], h => by simp [alks] at h
  | x :: xs, y :: ys, h => by
    simp [alks] at h
    exact congrArg (· + 1) (alks_len h.2)
theorem all_congr' {α : Type} {f g : α → Bool} : ∀ {l : List α}, (∀ x ∈ l, f x = g x) → l.all f = l.all g
  | [], _ => rfl
  | x :: xs, h => by rw [List.all_cons, List.all_cons, h x List.mem_cons_self, all_congr' fun y m => h y (List.mem_cons_of_mem _ m)]
theorem bls_map : ∀ (bs : List Bool), bls? (bs.map .bl) = some bs
  | [] => rfl
  | b :: bs => by
    have ih : mapO bl1? (bs.map .bl) = some bs := bls_map bs
    show mapO bl1? (.bl b :: bs.map .bl) = _
    rw [mapO, ih]; rfl
@[simp] theorem b_alll {bs : List Bool} {h : Hm} {Q : RV → Hm → Prop} : Sat (bltF .all [.l (bs.map .bl)] h) Q ↔ Q (.v (.bl (bs.all id))) h := by
  show Sat (match bls? (bs.map .bl) with | some bs => ok1 (.bl (bs.all id)) h | _ => .bad) Q ↔ _
  rw [bls_map]; exact Iff.rfl
@[simp] theorem b_anyl {bs : List Bool} {h : Hm} {Q : RV → Hm → Prop} : Sat (bltF .any [.l (bs.map .bl)] h) Q ↔ Q (.v (.bl (bs.any id))) h := by
  show Sat (match bls? (bs.map .bl) with | some bs => ok1 (.bl (bs.any id)) h | _ => .bad) Q ↔ _
  rw [bls_map]; exact Iff.rfl
/-! ### a law's cells -/
theorem numbered_at : ∀ (xs : List D) (j i : Nat) (x : D), (numbered j xs)[i]? = some x → ∃ y, xs[i]? = some y ∧ x = .tup [.int ((j + i : Nat) : Int), y]
  | [], j, i, x, e => by simp [numbered] at e
  | y :: xs, j, 0, x, e => by
    have e : some (D.tup [.int (j : Int), y]) = some x := e
    cases e
    exact ⟨y, rfl, rfl⟩
  | y :: xs, j, i + 1, x, e => by
    obtain ⟨z, e1, e2⟩ := numbered_at xs (j + 1) i x e
    exact ⟨z, e1, by rw [e2]; congr 4; omega⟩
theorem numbered_length : ∀ (xs : List D) (j : Nat), (numbered j xs).length = xs.length
  | [], _ => rfl
  | _ :: xs, j => congrArg (· + 1) (numbered_length xs (j + 1))
theorem cut_pre' {α : Type} {xs : List α} {j : Nat} : cut xs none (some (j : Int)) = xs.take j := by
  have e : sIx xs.length xs.length (some (j : Int)) = min j xs.length := by
    show (if (j : Int) < 0 then ((j : Int) + xs.length).toNat else min (j : Int).toNat xs.length) = _
    rw [if_neg (by omega)]
    rfl
  show (xs.drop 0).take (sIx xs.length xs.length (some (j : Int)) - 0) = _
  rw [e, List.drop_zero, Nat.sub_zero]
  by_cases l : j ≤ xs.length
  · rw [Nat.min_eq_left l]
  · rw [Nat.min_eq_right (by omega), List.take_of_length_le (Nat.le_refl _), List.take_of_length_le (by omega)]
theorem cut_suf {α : Type} {xs : List α} {j : Nat} : cut xs (some (j : Int)) none = xs.drop j := by
  have e : sIx xs.length 0 (some (j : Int)) = min j xs.length := by
    show (if (j : Int) < 0 then ((j : Int) + xs.length).toNat else min (j : Int).toNat xs.length) = _
    rw [if_neg (by omega)]
    rfl
  show (xs.drop (sIx xs.length 0 (some (j : Int)))).take (xs.length - sIx xs.length 0 (some (j : Int))) = _
  rw [e]
  by_cases l : j ≤ xs.length
  · rw [Nat.min_eq_left l, List.take_of_length_le (by rw [List.length_drop]; exact Nat.le_refl _)]
  · rw [Nat.min_eq_right (by omega), List.drop_length, List.drop_of_length_le (by omega)]; simp
theorem sat_gcb {b : Bool} {h h' : Hm} {Q : D → Hm → Prop} (q : ∀ h', Q (.bl b) h') : Sat (gcR h (.ok (.bl b) h')) Q := by
  unfold gcR
  dsimp only
  split
  · exact q _
  · exact q _
theorem sat_cells {ts : List Nat} {body : Env → Hm → Res Out} {σ : Env} {h : Hm} {Q : Out → Hm → Prop} (ns : List Int) {J : Int} (j0 : 0 ≤ J) (j1 : J ≤ 63) (I : Env → Hm → Prop) (start : I σ h)
    (step : ∀ (i : Nat) (cell : Int) σ h, i < 63 → I σ h → OK (setSlots σ ts [.int (i : Int), .int cell]) fun σ1 => Sat (body σ1 h) fun o h2 => LK o (fun σ2 => I σ2 h2) (fun σ2 => Q (.nx σ2) h2) fun d => Q (.rt d) h2)
    (fin : ∀ σ h, I σ h → Q (.nx σ) h) : (cut (ns.map D.int) none (some J)).length ≤ SL ∧ Sat (forL (tgF (.tp ts)) body [] (numbered 0 (cut (ns.map D.int) none (some J))) σ h) Q := by
  obtain ⟨j, rfl⟩ : ∃ j : Nat, J = (j : Int) := ⟨J.toNat, by omega⟩
  rw [cut_pre']
  refine ⟨by rw [List.length_take]; show _ ≤ 16777216; omega, ?_⟩
  refine sat_forX (fun i σ h => I σ h) start ?_ ?_
  · intro i x σ h ex z
    have hi : i < 63 := by
      have := (List.getElem?_eq_some_iff.mp ex).1
      rw [numbered_length, List.length_take] at this
      omega
    obtain ⟨y, ey, rfl⟩ := numbered_at _ _ _ _ ex
    have ey := List.mem_of_getElem? ey
    have ey := List.mem_of_mem_take ey
    obtain ⟨cell, _, rfl⟩ := List.mem_map.mp ey
    refine ⟨hc_nil, ?_⟩
    have := step i cell σ h hi z
    rw [tg_tp, Nat.zero_add]
    exact this
  · intro σ h z
    exact ⟨hc_nil, fin σ h z⟩
/-! ### lists held against each other -/
def IsL (h : Hm) (r : RV) (xs : List D) : Prop := r.toP h = (mapO (MP.toP h 61) xs).map .list ∧ r.lst? h = some xs
theorem isL_l {h : Hm} {xs : List D} : IsL h (.l xs) xs := ⟨rfl, rfl⟩
theorem isL_f {h : Hm} {xs : List D} : IsL h (.v (.fz xs)) xs := ⟨rfl, rfl⟩
theorem isL_r {h : Hm} {n : Nat} {xs : List D} (e : hAt h n = some (.lst xs)) : IsL h (.v (.ref n)) xs := by
  have e2 : listAt h n = some xs := by
    unfold listAt
    unfold hAt at e
    rw [e]
  refine ⟨?_, e2⟩
  show (match listAt h n with | some xs => (mapO (toP h 61) xs).map PyData.list | none => none) = _
  rw [e2]
theorem c_eqL {h : Hm} {r s : RV} {xs ys : List D} (e1 : IsL h r xs) (e2 : IsL h s ys) (a : ∀ x ∈ xs, dt 61 x = true) (b : ∀ x ∈ ys, dt 61 x = true) : copB .eq r s h = some (dEqs xs ys) := by
  obtain ⟨ps, p1, _⟩ := mapO_some (f := toP h 61) fun x m => dt_toP (a x m)
  obtain ⟨qs, q1, _⟩ := mapO_some (f := toP h 61) fun x m => dt_toP (b x m)
  have r1 : eqR h r s = some (dEqs xs ys) := by
    unfold eqR
    rw [e1.1, e2.1, p1, q1]
    show some (PyData.eqv (.list ps) (.list qs)) = _
    rw [PyData.eqv]
    congr 1
    exact eqvs (fun x mx y my p q ex ey => eqv_dt (a x mx) (b y my) ex ey) p1 q1
  show eqF h r s = _
  unfold eqF
  rw [e1.2]
  split
  · rename_i zs z
    cases z
    have : ys = [] := (Option.some.inj e2.2).symm
    subst this
    rw [dEqs_nil]
  · exact r1
theorem c_neL {h : Hm} {r s : RV} {xs ys : List D} (e1 : IsL h r xs) (e2 : IsL h s ys) (a : ∀ x ∈ xs, dt 61 x = true) (b : ∀ x ∈ ys, dt 61 x = true) : copB .ne r s h = some (!dEqs xs ys) := by
  show (copB .eq r s h).map (!·) = _
  rw [c_eqL e1 e2 a b]; rfl
end MP

/-! MO: the order of values. -/
namespace MP
open PySem
def sg (a b : Int) : Int := b2i (decide (b < a)) - b2i (decide (a < b))
def sgT (x y : Tx) : Int := b2i (ltT y x) - b2i (ltT x y)
def fnz : List Int → Int
  | [] => 0
  | i :: r => if i = 0 then fnz r else i
def Vl.kn : Vl → Int
  | .num _ => 0
  | .txt _ => 1
  | .tru _ => 2
  | .lst _ => 3
  | .rcd _ => 4
theorem sg_lt {a b : Int} : sg a b < 0 ↔ a < b := by
  unfold sg
  by_cases h : a < b <;> by_cases g : b < a <;> simp [h, g, b2i] <;> omega
theorem sg_zero {a b : Int} : sg a b = 0 ↔ a = b := by
  unfold sg
  by_cases h : a < b <;> by_cases g : b < a <;> simp [h, g, b2i] <;> omega
theorem sg_neg {a b : Int} : sg b a = - sg a b := by unfold sg; omega
theorem ltT_irr : ∀ x : Tx, ltT x x = false
  | [] => rfl
  | c :: x => by rw [ltT, if_pos rfl, ltT_irr x]
theorem ltT_tri : ∀ x y : Tx, ltT x y = false → ltT y x = false → x = y
  | [], [], _, _ => rfl
  | [], _ :: _, h, _ => by cases h
  | _ :: _, [], _, h => by cases h
  | c :: x, d :: y, h, g => by
    rw [ltT] at h g
    by_cases e : c = d
    · subst e
      rw [if_pos rfl] at h g
      rw [ltT_tri x y h g]
    · rw [if_neg e] at h
      rw [if_neg (fun z => e z.symm)] at g
      have h := of_decide_eq_false h
      have g := of_decide_eq_false g
      omega
theorem ltT_asym : ∀ x y : Tx, ltT x y = true → ltT y x = false
  | [], [], h => by cases h
  | [], _ :: _, _ => rfl
  | _ :: _, [], h => by cases h
  | c :: x, d :: y, h => by
    rw [ltT] at h ⊢
    by_cases e : c = d
    · subst e
      rw [if_pos rfl] at h ⊢
      exact ltT_asym x y h
    · rw [if_neg e] at h
      rw [if_neg (fun z => e z.symm)]
      have h := of_decide_eq_true h
      exact decide_eq_false (by omega)
theorem ltT_trans : ∀ x y z : Tx, ltT x y = true → ltT y z = true → ltT x z = true
  | [], [], _, h, _ => by cases h
  | [], _ :: _, [], _, h => by cases h
  | [], _ :: _, _ :: _, _, _ => rfl
  | _ :: _, [], _, h, _ => by cases h
  | _ :: _, _ :: _, [], _, h => by cases h
  | a :: x, b :: y, c :: z, h, g => by
    rw [ltT] at h g ⊢
    by_cases e : a = b
    · subst e
      rw [if_pos rfl] at h
      by_cases e2 : a = c
      · subst e2
        rw [if_pos rfl] at g ⊢
        exact ltT_trans x y z h g
      · rw [if_neg e2] at g ⊢; exact g
    · rw [if_neg e] at h
      have h := of_decide_eq_true h
      by_cases e2 : b = c
      · subst e2
        rw [if_neg e]; exact decide_eq_true h
      · rw [if_neg e2] at g
        have g := of_decide_eq_true g
        rw [if_neg (by omega)]
        exact decide_eq_true (by omega)
theorem sgT_lt {a b : Tx} : sgT a b < 0 ↔ ltT a b = true := by
  unfold sgT
  cases h : ltT a b with
  | true => rw [ltT_asym a b h]; simp [b2i]
  | false => cases ltT b a <;> simp [b2i]
theorem sgT_zero {a b : Tx} : sgT a b = 0 ↔ a = b := by
  constructor
  · intro e
    cases h : ltT a b with
    | true => have := sgT_lt.mpr h; omega
    | false =>
      cases g : ltT b a with
      | true => unfold sgT at e; rw [h, g] at e; simp [b2i] at e
      | false => exact ltT_tri a b h g
  · rintro rfl
    unfold sgT
    omega
theorem sgT_neg {a b : Tx} : sgT b a = - sgT a b := by unfold sgT; omega
def Fls.cpn : Fls → Fls → Int
  | .nil, _ => 0
  | .cons x _ r, ws => (match ws with
    | .nil => 0
    | .cons y _ s => if sgT x y = 0 then Fls.cpn r s else sgT x y)
mutual
def Vl.cp : Vl → Vl → Int
  | .num i, w => (match w with
    | .num j => if sg i.natAbs j.natAbs = 0 then b2i (decide (i < 0)) - b2i (decide (j < 0)) else sg i.natAbs j.natAbs
    | w => sg 0 w.kn)
  | .txt x, w => (match w with
    | .txt y => if x.length = y.length then sgT x y else sg x.length y.length
    | w => sg 1 w.kn)
  | .tru b, w => (match w with
    | .tru c => b2i b - b2i c
    | w => sg 2 w.kn)
  | .lst vs, w => (match w with
    | .lst ws => if vs.kds.length = ws.kds.length then Vls.cp vs ws else sg vs.kds.length ws.kds.length
    | w => sg 3 w.kn)
  | .rcd fs, w => (match w with
    | .rcd gs => if fs.kds.length = gs.kds.length then (if Fls.cpn fs gs = 0 then Fls.cp fs gs else Fls.cpn fs gs) else sg fs.kds.length gs.kds.length
    | w => sg 4 w.kn)
def Vls.cp : Vls → Vls → Int
  | .nil, _ => 0
  | .cons v r, ws => (match ws with
    | .nil => 0
    | .cons w s => if v.cp w = 0 then Vls.cp r s else v.cp w)
def Fls.cp : Fls → Fls → Int
  | .nil, _ => 0
  | .cons _ v r, ws => (match ws with
    | .nil => 0
    | .cons _ w s => if v.cp w = 0 then Fls.cp r s else v.cp w)
end
theorem Fls.cpn_zero : ∀ v w : Fls, v.kds.length = w.kds.length → (v.cpn w = 0 ↔ dEqs v.nms w.nms = true)
  | .nil, .nil, _ => by simp [Fls.cpn, Fls.nms, dEqs]
  | .nil, .cons _ _ _, h => by simp [Fls.kds] at h
  | .cons _ _ _, .nil, h => by simp [Fls.kds] at h
  | .cons x v r, .cons y w s, h => by
    rw [Fls.cpn, Fls.nms, Fls.nms, dEqs_cons, dEq_str]
    simp only [Fls.kds, List.length_cons, Nat.add_right_cancel_iff] at h
    by_cases e : x = y
    · subst e
      have z : sgT x x = 0 := sgT_zero.mpr rfl
      simp [z, Fls.cpn_zero r s h]
    · have z : sgT x y ≠ 0 := fun z => e (sgT_zero.mp z)
      simp [z, e]
mutual
theorem Vl.cp_zero : ∀ v w : Vl, v.cp w = 0 ↔ v = w
  | .tru b, w => by
    cases w with
    | tru c => cases b <;> cases c <;> simp [Vl.cp]
    | _ => simp [Vl.cp, Vl.kn, sg_zero]
  | .num i, w => by
    cases w with
    | num j =>
      rw [Vl.cp]
      simp only [Vl.num.injEq]
      by_cases e : sg i.natAbs j.natAbs = 0
      · rw [if_pos e]
        have := sg_zero.mp e
        by_cases a : i < 0 <;> by_cases b : j < 0 <;> simp [a, b] <;> omega
      · rw [if_neg e]
        constructor
        · intro z; exact absurd z e
        · rintro rfl; exact absurd (sg_zero.mpr rfl) e
    | _ => simp [Vl.cp, Vl.kn, sg_zero]
  | .txt x, w => by
    cases w with
    | txt y =>
      rw [Vl.cp]
      simp only [Vl.txt.injEq]
      by_cases e : x.length = y.length
      · rw [if_pos e]; exact sgT_zero
      · rw [if_neg e, sg_zero]
        constructor
        · intro z; omega
        · rintro rfl; rfl
    | _ => simp [Vl.cp, Vl.kn, sg_zero]
  | .lst vs, w => by
    cases w with
    | lst ws =>
      rw [Vl.cp]
      simp only [Vl.lst.injEq]
      by_cases e : vs.kds.length = ws.kds.length
      · rw [if_pos e]; exact Vls.cp_zero vs ws e
      · rw [if_neg e, sg_zero]
        constructor
        · intro z; omega
        · rintro rfl; rfl
    | _ => simp [Vl.cp, Vl.kn, sg_zero]
  | .rcd vs, w => by
    cases w with
    | rcd ws =>
      rw [Vl.cp]
      simp only [Vl.rcd.injEq]
      by_cases e : vs.kds.length = ws.kds.length
      · rw [if_pos e, ← Fls.sm_iff, ← Fls.kd_eq, Bool.and_eq_true, ← Fls.cpn_zero vs ws e]
        by_cases z : vs.cpn ws = 0
        · rw [if_pos z]
          have := Fls.cp_zero vs ws e
          rw [this]
          simp [z]
        · rw [if_neg z]
          simp [z]
      · rw [if_neg e, sg_zero]
        constructor
        · intro z; omega
        · rintro rfl; rfl
    | _ => simp [Vl.cp, Vl.kn, sg_zero]
theorem Vls.cp_zero : ∀ v w : Vls, v.kds.length = w.kds.length → (v.cp w = 0 ↔ v = w)
  | .nil, .nil, _ => by simp [Vls.cp]
  | .nil, .cons _ _, h => by simp [Vls.kds] at h
  | .cons _ _, .nil, h => by simp [Vls.kds] at h
  | .cons v r, .cons w s, h => by
    simp only [Vls.kds, List.length_cons, Nat.add_right_cancel_iff] at h
    rw [Vls.cp]
    try dsimp only
    by_cases z : v.cp w = 0
    · rw [if_pos z, Vls.cp_zero r s h]
      have := (Vl.cp_zero v w).mp z
      subst this
      simp
    · rw [if_neg z]
      have : v ≠ w := fun e => z ((Vl.cp_zero v w).mpr e)
      simp [z, this]
theorem Fls.cp_zero : ∀ v w : Fls, v.kds.length = w.kds.length → (v.cp w = 0 ↔ dEqs v.kds w.kds = true)
  | .nil, .nil, _ => by simp [Fls.cp, Fls.kds, dEqs]
  | .nil, .cons _ _ _, h => by simp [Fls.kds] at h
  | .cons _ _ _, .nil, h => by simp [Fls.kds] at h
  | .cons _ v r, .cons _ w s, h => by
    simp only [Fls.kds, List.length_cons, Nat.add_right_cancel_iff] at h
    rw [Fls.cp, Fls.kds, Fls.kds, dEqs_cons, Vl.kd_eq]
    try dsimp only
    by_cases z : v.cp w = 0
    · rw [if_pos z, Fls.cp_zero r s h]
      have := (Vl.sm_iff v w).mpr ((Vl.cp_zero v w).mp z)
      rw [this]; simp
    · rw [if_neg z]
      have : v.sm w = false := by
        cases e : v.sm w with
        | false => rfl
        | true => exact absurd ((Vl.cp_zero v w).mpr ((Vl.sm_iff v w).mp e)) z
      simp [z, this]
end
/-! the keys' order -/
theorem eqD_dt {h : Hm} {n : Nat} {d e : D} (a : dt n d = true) (b : dt n e = true) : eqD h n d e = some (dEq d e) := by
  obtain ⟨p, e1⟩ := dt_toP (h := h) a
  obtain ⟨q, e2⟩ := dt_toP (h := h) b
  unfold eqD
  rw [e1, e2]
  try dsimp only
  rw [eqv_dt a b e1 e2]
def LT (h : Hm) (n : Nat) : List D → List D → Option Bool := ltL (ltD h n) fun a b => some (dEq a b)
theorem LT_nil {h : Hm} {n : Nat} : LT h n [] [] = some false := rfl
theorem LT_cons {h : Hm} {n : Nat} {x y : D} {xs ys : List D} : LT h n (x :: xs) (y :: ys) = if dEq x y = true then LT h n xs ys else ltD h n x y := by
  unfold LT
  rw [ltL]
  cases dEq x y <;> rfl
theorem ltL_dt {h : Hm} {n : Nat} : ∀ {xs ys : List D}, (∀ x ∈ xs, dt n x = true) → (∀ x ∈ ys, dt n x = true) → eqAll (eqD h n) xs ys = true ∧ ltL (ltD h n) (eqD h n) xs ys = LT h n xs ys
  | [], [], _, _ => ⟨rfl, rfl⟩
  | [], _ :: _, _, _ => ⟨rfl, rfl⟩
  | _ :: _, [], _, _ => ⟨rfl, rfl⟩
  | x :: xs, y :: ys, a, b => by
    have ih := ltL_dt (h := h) (fun z m => a z (List.mem_cons_of_mem _ m)) (fun z m => b z (List.mem_cons_of_mem _ m))
    have e := eqD_dt (h := h) (a x List.mem_cons_self) (b y List.mem_cons_self)
    refine ⟨by rw [eqAll, e, ih.1]; rfl, ?_⟩
    rw [ltL, e, LT_cons]
    cases dEq x y
    · rfl
    · exact ih.2
theorem ltD_tup {h : Hm} {n : Nat} {xs ys : List D} (a : dt (n + 1) (.tup xs) = true) (b : dt (n + 1) (.tup ys) = true) : ltD h (n + 1) (.tup xs) (.tup ys) = LT h n xs ys := by
  have a : xs.all (dt n) = true := a
  have b : ys.all (dt n) = true := b
  rw [List.all_eq_true] at a b
  obtain ⟨e1, e2⟩ := ltL_dt (h := h) a b
  show (if eqAll (eqD h n) xs ys then ltL (ltD h n) (eqD h n) xs ys else none) = _
  rw [if_pos e1, e2]
theorem ltD_int {h : Hm} {n : Nat} {i j : Int} : ltD h (n + 1) (.int i) (.int j) = some (decide (i < j)) := rfl
theorem ltD_str {h : Hm} {n : Nat} {i j : Tx} : ltD h (n + 1) (.str i) (.str j) = some (ltT i j) := rfl
theorem sg_dec {a b : Int} : decide (a < b) = decide (sg a b < 0) := by rw [decide_eq_decide, sg_lt]
theorem LT_nms {h : Hm} {n : Nat} : ∀ v w : Fls, v.kds.length = w.kds.length → LT h (n + 1) v.nms w.nms = some (decide (v.cpn w < 0))
  | .nil, .nil, _ => by simp [Fls.cpn, Fls.nms, LT_nil]
  | .nil, .cons _ _ _, h => by simp [Fls.kds] at h
  | .cons _ _ _, .nil, h => by simp [Fls.kds] at h
  | .cons x v r, .cons y w s, hl => by
    simp only [Fls.kds, List.length_cons, Nat.add_right_cancel_iff] at hl
    rw [Fls.cpn, Fls.nms, Fls.nms, LT_cons, dEq_str, ltD_str]
    try dsimp only
    by_cases e : x = y
    · subst e
      have z : sgT x x = 0 := sgT_zero.mpr rfl
      simp [z, LT_nms r s hl]
    · have z : sgT x y ≠ 0 := fun z => e (sgT_zero.mp z)
      simp only [z, e, decide_false, Bool.false_eq_true, if_false]
      congr 1
      rw [Bool.eq_iff_iff, ← sgT_lt, decide_eq_true_eq]
theorem LT_kds {h : Hm} {n : Nat} {P : Vl → Prop} (ih : ∀ v w, P v → P w → ltD h n v.kd w.kd = some (decide (v.cp w < 0))) : ∀ v w : Vls, v.kds.length = w.kds.length → (∀ x ∈ v.toL, P x) → (∀ x ∈ w.toL, P x) → LT h n v.kds w.kds = some (decide (v.cp w < 0))
  | .nil, .nil, _, _, _ => by simp [Vls.cp, Vls.kds, LT_nil]
  | .nil, .cons _ _, h, _, _ => by simp [Vls.kds] at h
  | .cons _ _, .nil, h, _, _ => by simp [Vls.kds] at h
  | .cons v r, .cons w s, hl, a, b => by
    simp only [Vls.kds, List.length_cons, Nat.add_right_cancel_iff] at hl
    rw [Vls.toL] at a b
    rw [Vls.cp, Vls.kds, Vls.kds, LT_cons, Vl.kd_eq, LT_kds ih r s hl (fun x m => a x (List.mem_cons_of_mem _ m)) (fun x m => b x (List.mem_cons_of_mem _ m)), ih v w (a v List.mem_cons_self) (b w List.mem_cons_self)]
    try dsimp only
    by_cases z : v.cp w = 0
    · rw [if_pos z, if_pos ((Vl.sm_iff v w).mpr ((Vl.cp_zero v w).mp z))]
    · rw [if_neg z, if_neg (fun e => z ((Vl.cp_zero v w).mpr ((Vl.sm_iff v w).mp e)))]
theorem LT_fds {h : Hm} {n : Nat} {P : Vl → Prop} (ih : ∀ v w, P v → P w → ltD h n v.kd w.kd = some (decide (v.cp w < 0))) : ∀ v w : Fls, v.kds.length = w.kds.length → (∀ x ∈ v.toL, P x.2) → (∀ x ∈ w.toL, P x.2) → LT h n v.kds w.kds = some (decide (v.cp w < 0))
  | .nil, .nil, _, _, _ => by simp [Fls.cp, Fls.kds, LT_nil]
  | .nil, .cons _ _ _, h, _, _ => by simp [Fls.kds] at h
  | .cons _ _ _, .nil, h, _, _ => by simp [Fls.kds] at h
  | .cons x v r, .cons y w s, hl, a, b => by
    simp only [Fls.kds, List.length_cons, Nat.add_right_cancel_iff] at hl
    rw [Fls.toL] at a b
    rw [Fls.cp, Fls.kds, Fls.kds, LT_cons, Vl.kd_eq, LT_fds ih r s hl (fun x m => a x (List.mem_cons_of_mem _ m)) (fun x m => b x (List.mem_cons_of_mem _ m)), ih v w (a (x, v) List.mem_cons_self) (b (y, w) List.mem_cons_self)]
    try dsimp only
    by_cases z : v.cp w = 0
    · rw [if_pos z, if_pos ((Vl.sm_iff v w).mpr ((Vl.cp_zero v w).mp z))]
    · rw [if_neg z, if_neg (fun e => z ((Vl.cp_zero v w).mpr ((Vl.sm_iff v w).mp e)))]
theorem kd_sm {v w : Vl} : dEq v.kd w.kd = true ↔ v.cp w = 0 := by rw [Vl.kd_eq, Vl.sm_iff, Vl.cp_zero]
theorem Vl.lt_kd {h : Hm} : ∀ {m n k : Nat} {v w : Vl}, v.ok k m = true → w.ok k m = true → 2 * m ≤ n → ltD h n v.kd w.kd = some (decide (v.cp w < 0))
  | 0, n, k, v, w, o, _, _ => absurd (Vl.ok_pos o) (Nat.lt_irrefl _)
  | m + 1, n, k, v, w, o, o2, hn => by
    obtain ⟨n, rfl⟩ : ∃ q, n = q + 2 := ⟨n - 2, by omega⟩
    have d1 := dt_up (show 2 * (m + 1) ≤ n + 2 by omega) (Vl.dt_kd o)
    have d2 := dt_up (show 2 * (m + 1) ≤ n + 2 by omega) (Vl.dt_kd o2)
    cases v with
    | num i =>
      rw [Vl.kd] at d1 ⊢
      cases w with
      | num j =>
        rw [Vl.kd] at d2 ⊢
        rw [ltD_tup d1 d2, Vl.cp]
        simp only [LT_cons, LT_nil, dEq_int, ltD_int, beq_iff_eq]
        rw [if_pos trivial]
        try dsimp only
        by_cases e : (i.natAbs : Int) = j.natAbs
        · rw [if_pos e, if_pos (sg_zero.mpr e)]
          by_cases a : i < 0 <;> by_cases b : j < 0 <;> simp [a, b]
        · rw [if_neg e, if_neg (fun z => e (sg_zero.mp z))]
          rw [sg_dec]
      | _ =>
        rw [Vl.kd] at d2 ⊢
        rw [ltD_tup d1 d2]
        simp [LT_cons, dEq_int, ltD_int, Vl.cp, Vl.kn, sg]
    | tru i =>
      rw [Vl.kd] at d1 ⊢
      cases w with
      | tru j =>
        rw [Vl.kd] at d2 ⊢
        rw [ltD_tup d1 d2]
        cases i <;> cases j <;> simp [LT_cons, LT_nil, dEq_int, ltD_int, Vl.cp, Vl.kn, sg]
      | _ =>
        rw [Vl.kd] at d2 ⊢
        rw [ltD_tup d1 d2]
        simp [LT_cons, dEq_int, ltD_int, Vl.cp, Vl.kn, sg]
    | txt x =>
      rw [Vl.kd] at d1 ⊢
      cases w with
      | txt y =>
        rw [Vl.kd] at d2 ⊢
        rw [ltD_tup d1 d2, Vl.cp]
        simp only [LT_cons, LT_nil, dEq_int, dEq_str, ltD_int, ltD_str, beq_iff_eq, decide_eq_true_eq]
        rw [if_pos trivial]
        try dsimp only
        by_cases e : x.length = y.length
        · rw [if_pos (congrArg Nat.cast e), if_pos e]
          by_cases e2 : x = y
          · subst e2
            rw [if_pos rfl, sgT_zero.mpr rfl]; rfl
          · rw [if_neg e2]
            congr 1
            rw [Bool.eq_iff_iff, ← sgT_lt, decide_eq_true_eq]
        · rw [if_neg (fun z => e (by omega)), if_neg e, sg_dec]
      | _ =>
        rw [Vl.kd] at d2 ⊢
        rw [ltD_tup d1 d2]
        simp [LT_cons, dEq_int, ltD_int, Vl.cp, Vl.kn, sg]
    | lst vs =>
      rw [Vl.kd] at d1 ⊢
      cases w with
      | lst ws =>
        rw [Vl.kd] at d2 ⊢
        rw [Vl.ok] at o o2
        simp only [Bool.and_eq_true, decide_eq_true_eq, Nat.add_sub_cancel] at o o2
        have a := Vls.ok_iff.mp o.2.2
        have b := Vls.ok_iff.mp o2.2.2
        have t1 : dt (n + 1) (.tup vs.kds) = true := by
          have d1 : ([D.int 3, .int vs.kds.length, .tup vs.kds].all (dt (n + 1))) = true := d1
          rw [List.all_eq_true] at d1
          exact d1 _ (by simp)
        have t2 : dt (n + 1) (.tup ws.kds) = true := by
          have d2 : ([D.int 3, .int ws.kds.length, .tup ws.kds].all (dt (n + 1))) = true := d2
          rw [List.all_eq_true] at d2
          exact d2 _ (by simp)
        rw [ltD_tup d1 d2, Vl.cp]
        simp only [LT_cons, LT_nil, dEq_int, dEq_tup, ltD_int, beq_iff_eq]
        rw [if_pos trivial, Vls.kd_eq]
        try dsimp only
        by_cases e : vs.kds.length = ws.kds.length
        · rw [if_pos (congrArg Nat.cast e), if_pos e]
          by_cases e2 : vs.sm ws = true
          · rw [if_pos e2, (Vls.cp_zero vs ws e).mpr ((Vls.sm_iff vs ws).mp e2)]; rfl
          · rw [if_neg e2, ltD_tup t1 t2]
            exact LT_kds (P := fun v => v.ok k m = true) (fun v w h1 h2 => Vl.lt_kd h1 h2 (by omega)) vs ws e a b
        · rw [if_neg (fun z => e (by omega)), if_neg e, sg_dec]
      | _ =>
        rw [Vl.kd] at d2 ⊢
        rw [ltD_tup d1 d2]
        simp [LT_cons, dEq_int, ltD_int, Vl.cp, Vl.kn, sg]
    | rcd vs =>
      rw [Vl.kd] at d1 ⊢
      cases w with
      | rcd ws =>
        rw [Vl.kd] at d2 ⊢
        rw [Vl.ok] at o o2
        simp only [Bool.and_eq_true, decide_eq_true_eq, Nat.add_sub_cancel] at o o2
        have a := Fls.ok_iff.mp o.2.2
        have b := Fls.ok_iff.mp o2.2.2
        have t1 : dt (n + 1) (.tup vs.kds) = true ∧ dt (n + 1) (.tup vs.nms) = true := by
          have d1 : ([D.int 4, .int vs.kds.length, .tup vs.nms, .tup vs.kds].all (dt (n + 1))) = true := d1
          rw [List.all_eq_true] at d1
          exact ⟨d1 _ (by simp), d1 _ (by simp)⟩
        have t2 : dt (n + 1) (.tup ws.kds) = true ∧ dt (n + 1) (.tup ws.nms) = true := by
          have d2 : ([D.int 4, .int ws.kds.length, .tup ws.nms, .tup ws.kds].all (dt (n + 1))) = true := d2
          rw [List.all_eq_true] at d2
          exact ⟨d2 _ (by simp), d2 _ (by simp)⟩
        rw [ltD_tup d1 d2, Vl.cp]
        simp only [LT_cons, LT_nil, dEq_int, dEq_tup, ltD_int, beq_iff_eq]
        rw [if_pos trivial]
        try dsimp only
        by_cases e : vs.kds.length = ws.kds.length
        · rw [if_pos (congrArg Nat.cast e), if_pos e]
          by_cases e2 : vs.cpn ws = 0
          · rw [if_pos ((Fls.cpn_zero vs ws e).mp e2), if_pos e2]
            by_cases e3 : vs.cp ws = 0
            · rw [if_pos ((Fls.cp_zero vs ws e).mp e3), e3]; rfl
            · rw [if_neg (fun z => e3 ((Fls.cp_zero vs ws e).mpr z)), ltD_tup t1.1 t2.1]
              exact LT_fds (P := fun v => v.ok k m = true) (fun v w h1 h2 => Vl.lt_kd h1 h2 (by omega)) vs ws e (fun x m => (a x m).2.2) (fun x m => (b x m).2.2)
          · rw [if_neg (fun z => e2 ((Fls.cpn_zero vs ws e).mpr z)), if_neg e2, ltD_tup t1.2 t2.2]
            cases n with
            | zero =>
              cases vs with
              | nil =>
                cases ws with
                | nil => simp [Fls.cpn] at e2
                | cons _ _ _ => simp [Fls.kds] at e
              | cons x v r =>
                have := a (x, v) (by simp [Fls.toL])
                have := Vl.ok_pos this.2.2
                omega
            | succ n => exact LT_nms vs ws e
        · rw [if_neg (fun z => e (by omega)), if_neg e, sg_dec]
      | _ =>
        rw [Vl.kd] at d2 ⊢
        rw [ltD_tup d1 d2]
        simp [LT_cons, dEq_int, ltD_int, Vl.cp, Vl.kn, sg]
theorem Vl.cp_kn {v w : Vl} (h : v.kn ≠ w.kn) : v.cp w = sg v.kn w.kn := by
  cases v <;> cases w <;> first | exact absurd rfl h | simp [Vl.cp, Vl.kn]
theorem sgT_at : ∀ {x y : Tx} {i c d : Nat}, x[i]? = some c → y[i]? = some d → x.take i = y.take i → c ≠ d → sgT x y = sgT [c] [d]
  | [], _, i, _, _, h, _, _, _ => by simp at h
  | _ :: _, [], i, _, _, _, h, _, _ => by simp at h
  | a :: x, b :: y, 0, c, d, h1, h2, _, ne => by
    simp at h1 h2
    subst h1 h2
    unfold sgT
    simp [ltT, ne, Ne.symm ne]
  | a :: x, b :: y, i + 1, c, d, h1, h2, e, ne => by
    simp at h1 h2 e
    obtain ⟨rfl, e⟩ := e
    rw [← sgT_at h1 h2 e ne]
    unfold sgT
    simp [ltT]
theorem isAz_ascii1 {x : Tx} {c : Nat} (a : isAz x = true) (m : c ∈ x) : isAscii [c] = true := by
  have := az_ascii a
  unfold isAscii at this ⊢
  rw [List.all_eq_true] at this
  simpa using this c m
@[simp] theorem c_gts {x y : Tx} {h : Hm} : copB .gt (.v (.str x)) (.v (.str y)) h = some (ltT y x) := rfl
@[simp] theorem c_lts {x y : Tx} {h : Hm} : copB .lt (.v (.str x)) (.v (.str y)) h = some (ltT x y) := rfl
def Vl.inner : Vl → List Vl
  | .lst vs => vs.toL
  | .rcd fs => fs.toL.map (·.2)
  | _ => []
/-! comprehensions once more -/
theorem sat_compF {α : Type} {step : D → Hm → Res (Option D)} {cs : List (Nat × O)} {h : Hm} {Q : List D → Hm → Prop} (ys : List α) (g : α → D) (p : α → Bool) (hc : HC cs h)
    (st : ∀ x ∈ ys, ∀ Q : Option D → Hm → Prop, (p x = true → Q (some (g x)) h) → (p x = false → Q none h) → Sat (step (g x) h) Q) (fin : Q ((ys.filter p).map g) h) : Sat (compL step cs (ys.map g) h) Q := by
  refine sat_compX (fun i acc h' => acc = ((ys.take i).filter p).map g ∧ h' = h) ⟨rfl, rfl⟩ ?_ ?_
  · intro i x acc h' e z
    obtain ⟨rfl, rfl⟩ := z
    rw [List.getElem?_map] at e
    obtain ⟨y, ey, rfl⟩ := Option.map_eq_some_iff.mp e
    obtain ⟨l, el⟩ := List.getElem?_eq_some_iff.mp ey
    refine ⟨hc, st y (List.mem_of_getElem? ey) _ (fun t => ⟨?_, rfl⟩) (fun t => ⟨?_, rfl⟩)⟩
    · rw [List.take_succ_eq_append_getElem l, el, List.filter_append, List.map_append, List.filter_cons_of_pos t]
      rfl
    · rw [List.take_succ_eq_append_getElem l, el, List.filter_append, List.map_append, List.filter_cons_of_neg (by rw [t]; exact Bool.false_ne_true)]
      simp
  · intro acc h' z
    obtain ⟨rfl, rfl⟩ := z
    rw [List.length_map, List.take_length]
    exact ⟨hc, fin⟩
theorem sat_compZ {α : Type} {step : D → Hm → Res (Option D)} {h : Hm} {Q : List D → Hm → Prop} {n : Nat} (L : List α) (g : α → D) (hl : L.length = n)
    (st : ∀ (i : Nat) (hi : i < L.length), ∀ Q : Option D → Hm → Prop, Q (some (g L[i])) h → Sat (step (.int (0 + (i : Int))) h) Q) (fin : Q (L.map g) h) : Sat (compL step [] (countUp 0 n) h) Q := by
  subst hl
  refine sat_compN (fun i acc h' => acc = (L.take i).map g ∧ h' = h) ⟨rfl, rfl⟩ ?_ ?_
  · intro i acc h' hi z
    obtain ⟨rfl, rfl⟩ := z
    refine ⟨hc_nil, st i hi _ ⟨?_, rfl⟩⟩
    rw [List.take_succ_eq_append_getElem hi, List.map_append]
    rfl
  · intro acc h' z
    obtain ⟨rfl, rfl⟩ := z
    rw [List.take_length]
    exact ⟨hc_nil, fin⟩
theorem fnz_nil {L : List Int} : (L.filter fun i => i != 0) = [] ↔ fnz L = 0 := by
  induction L with
  | nil => simp [fnz]
  | cons i r ih =>
    rw [fnz]
    by_cases e : i = 0
    · subst e; simpa using ih
    · rw [if_neg e, List.filter_cons_of_pos (by simpa using e)]
      simp [e]
theorem fnz_at {L : List Int} : atI ((L.filter fun i => i != 0).map D.int ++ [.int 0]) 0 = some (.int (fnz L)) := by
  induction L with
  | nil => simp [fnz]
  | cons i r ih =>
    rw [fnz]
    by_cases e : i = 0
    · subst e; simpa using ih
    · rw [if_neg e, List.filter_cons_of_pos (by simpa using e)]
      simp
theorem fnz_vls : ∀ v w : Vls, fnz (List.zipWith Vl.cp v.toL w.toL) = v.cp w
  | .nil, w => by simp [Vls.toL, Vls.cp, fnz]
  | .cons v r, .nil => by simp [Vls.toL, Vls.cp, fnz]
  | .cons v r, .cons w s => by
    rw [Vls.toL, Vls.toL, List.zipWith_cons_cons, fnz, Vls.cp, fnz_vls r s]
theorem fnz_fls : ∀ v w : Fls, fnz (List.zipWith Vl.cp (v.toL.map (·.2)) (w.toL.map (·.2))) = v.cp w
  | .nil, w => by simp [Fls.toL, Fls.cp, fnz]
  | .cons _ v r, .nil => by simp [Fls.toL, Fls.cp, fnz]
  | .cons _ v r, .cons _ w s => by
    rw [Fls.toL, Fls.toL, List.map_cons, List.map_cons, List.zipWith_cons_cons, fnz, Fls.cp, fnz_fls r s]
theorem fnz_nms : ∀ v w : Fls, fnz (List.zipWith (fun p q => sgT p.1 q.1) v.toL w.toL) = v.cpn w
  | .nil, w => by simp [Fls.toL, Fls.cpn, fnz]
  | .cons _ v r, .nil => by simp [Fls.toL, Fls.cpn, fnz]
  | .cons _ v r, .cons _ w s => by
    rw [Fls.toL, Fls.toL, List.zipWith_cons_cons, fnz, Fls.cpn, fnz_nms r s]
theorem Vls.kds_len {vs : Vls} : vs.kds.length = vs.toL.length := by rw [Vls.kds_eq, List.length_map]
theorem Fls.kds_len {vs : Fls} : vs.kds.length = vs.toL.length := by rw [Fls.kds_eq, List.length_map]
theorem Vls.encs_len {vs : Vls} : vs.encs.length = vs.toL.length := by rw [Vls.encs_eq, List.length_map]
theorem Fls.encs_len {vs : Fls} : vs.encs.length = vs.toL.length := by rw [Fls.encs_eq, List.length_map]
theorem fnz_one {i : Int} : fnz [i] = i := by
  rw [fnz, fnz]
  by_cases e : i = 0
  · rw [if_pos e, e]
  · rw [if_neg e]
end MP

/-! MO2: the order of values is whole. -/
namespace MP
open PySem
def lexT : List Tx → List Tx → Int
  | [], _ => 0
  | _ :: _, [] => 0
  | x :: r, y :: s => if sgT x y = 0 then lexT r s else sgT x y
theorem Fls.cpn_lex : ∀ v w : Fls, v.cpn w = lexT (v.toL.map (·.1)) (w.toL.map (·.1))
  | .nil, w => by simp [Fls.cpn, Fls.toL, lexT]
  | .cons _ _ _, .nil => by simp [Fls.cpn, Fls.toL, lexT]
  | .cons x v r, .cons y w s => by
    rw [Fls.cpn, Fls.toL, Fls.toL, List.map_cons, List.map_cons, lexT, Fls.cpn_lex r s]
theorem lexT_neg : ∀ a b : List Tx, lexT b a = - lexT a b
  | [], [] => by simp [lexT]
  | [], _ :: _ => by simp [lexT]
  | _ :: _, [] => by simp [lexT]
  | x :: r, y :: s => by
    rw [lexT, lexT, lexT_neg r s, sgT_neg (a := x) (b := y)]
    by_cases e : sgT x y = 0
    · rw [if_pos e, if_pos (by omega)]
    · rw [if_neg e, if_neg (by omega)]
theorem lexT_zero : ∀ a b : List Tx, a.length = b.length → lexT a b = 0 → a = b
  | [], [], _, _ => rfl
  | [], _ :: _, h, _ => by simp at h
  | _ :: _, [], h, _ => by simp at h
  | x :: r, y :: s, h, z => by
    rw [lexT] at z
    by_cases e : sgT x y = 0
    · rw [if_pos e] at z
      rw [sgT_zero.mp e, lexT_zero r s (by simpa using h) z]
    · rw [if_neg e] at z
      exact absurd z e
theorem sgT_trans {x y z : Tx} (a : sgT x y < 0) (b : sgT y z < 0) : sgT x z < 0 := sgT_lt.mpr (ltT_trans x y z (sgT_lt.mp a) (sgT_lt.mp b))
theorem lexT_trans : ∀ a b c : List Tx, lexT a b < 0 → lexT b c < 0 → lexT a c < 0
  | [], _, _, h, _ => by simp [lexT] at h
  | _ :: _, [], _, h, _ => by simp [lexT] at h
  | _ :: _, _ :: _, [], _, h => by simp [lexT] at h
  | x :: r, y :: s, z :: t, h, g => by
    rw [lexT] at h g ⊢
    by_cases e : sgT x y = 0
    · have := sgT_zero.mp e
      subst this
      rw [if_pos e] at h
      by_cases e2 : sgT x z = 0
      · rw [if_pos e2] at g ⊢
        exact lexT_trans r s t h g
      · rw [if_neg e2] at g ⊢; exact g
    · rw [if_neg e] at h
      by_cases e2 : sgT y z = 0
      · have := sgT_zero.mp e2
        subst this
        rw [if_neg e]; exact h
      · rw [if_neg e2] at g
        have := sgT_trans h g
        rw [if_neg (by omega)]; exact this
mutual
theorem Vl.cp_neg : ∀ v w : Vl, w.cp v = - v.cp w
  | .tru b, w => by
    cases w <;> simp only [Vl.cp, Vl.kn] <;> first | exact sg_neg | omega
  | .num i, w => by
    cases w with
    | num j =>
      rw [Vl.cp, Vl.cp]
      try dsimp only
      rw [sg_neg (a := (i.natAbs : Int)) (b := j.natAbs)]
      by_cases e : sg i.natAbs j.natAbs = 0
      · rw [if_pos e, if_pos (by omega)]; omega
      · rw [if_neg e, if_neg (by omega)]
    | _ => simp only [Vl.cp, Vl.kn]; exact sg_neg
  | .txt x, w => by
    cases w with
    | txt y =>
      rw [Vl.cp, Vl.cp]
      try dsimp only
      by_cases e : x.length = y.length
      · rw [if_pos e, if_pos e.symm]; exact sgT_neg
      · rw [if_neg e, if_neg (fun z => e z.symm)]; exact sg_neg
    | _ => simp only [Vl.cp, Vl.kn]; exact sg_neg
  | .lst vs, w => by
    cases w with
    | lst ws =>
      rw [Vl.cp, Vl.cp]
      try dsimp only
      by_cases e : vs.kds.length = ws.kds.length
      · rw [if_pos e, if_pos e.symm]; exact Vls.cp_neg vs ws
      · rw [if_neg e, if_neg (fun z => e z.symm)]; exact sg_neg
    | _ => simp only [Vl.cp, Vl.kn]; exact sg_neg
  | .rcd vs, w => by
    cases w with
    | rcd ws =>
      rw [Vl.cp, Vl.cp]
      try dsimp only
      by_cases e : vs.kds.length = ws.kds.length
      · rw [if_pos e, if_pos e.symm, Fls.cpn_lex, Fls.cpn_lex, lexT_neg (vs.toL.map (·.1)) (ws.toL.map (·.1))]
        by_cases z : lexT (vs.toL.map (·.1)) (ws.toL.map (·.1)) = 0
        · rw [if_pos z, if_pos (by omega)]; exact Fls.cp_neg vs ws
        · rw [if_neg z, if_neg (by omega)]
      · rw [if_neg e, if_neg (fun z => e z.symm)]; exact sg_neg
    | _ => simp only [Vl.cp, Vl.kn]; exact sg_neg
theorem Vls.cp_neg : ∀ v w : Vls, w.cp v = - v.cp w
  | .nil, w => by cases w <;> simp [Vls.cp]
  | .cons v r, .nil => by simp [Vls.cp]
  | .cons v r, .cons w s => by
    rw [Vls.cp, Vls.cp]
    try dsimp only
    rw [Vl.cp_neg v w, Vls.cp_neg r s]
    by_cases z : v.cp w = 0
    · rw [if_pos z, if_pos (by omega)]
    · rw [if_neg z, if_neg (by omega)]
theorem Fls.cp_neg : ∀ v w : Fls, w.cp v = - v.cp w
  | .nil, w => by cases w <;> simp [Fls.cp]
  | .cons _ v r, .nil => by simp [Fls.cp]
  | .cons _ v r, .cons _ w s => by
    rw [Fls.cp, Fls.cp]
    try dsimp only
    rw [Vl.cp_neg v w, Fls.cp_neg r s]
    by_cases z : v.cp w = 0
    · rw [if_pos z, if_pos (by omega)]
    · rw [if_neg z, if_neg (by omega)]
end
theorem Vl.kn_le {v w : Vl} (h : v.cp w < 0) : v.kn ≤ w.kn := by
  by_cases e : v.kn = w.kn
  · omega
  · rw [Vl.cp_kn e] at h
    have := sg_lt.mp h
    omega
theorem Vl.kn_lt {v w : Vl} (h : v.kn < w.kn) : v.cp w < 0 := by
  rw [Vl.cp_kn (by omega)]
  exact sg_lt.mpr h
mutual
theorem Vl.cp_trans : ∀ u v w : Vl, u.cp v < 0 → v.cp w < 0 → u.cp w < 0
  | u, v, w, h, g => by
    have k1 := Vl.kn_le h
    have k2 := Vl.kn_le g
    by_cases kk : u.kn < w.kn
    · exact Vl.kn_lt kk
    have e1 : u.kn = v.kn := by omega
    have e2 : v.kn = w.kn := by omega
    clear k1 k2 kk
    match u, v, w, e1, e2, h, g with
    | .num i, .num j, .num k, _, _, h, g =>
      rw [Vl.cp] at h g ⊢
      try dsimp only at h g ⊢
      have split : ∀ a b : Int, (if sg a.natAbs b.natAbs = 0 then b2i (decide (a < 0)) - b2i (decide (b < 0)) else sg a.natAbs b.natAbs) < 0 ↔ (a.natAbs < b.natAbs ∨ (a.natAbs = b.natAbs ∧ 0 ≤ a ∧ b < 0)) := by
        intro a b
        by_cases e : sg a.natAbs b.natAbs = 0
        · rw [if_pos e]
          have := sg_zero.mp e
          by_cases p : a < 0 <;> by_cases q : b < 0 <;> simp [p, q] <;> omega
        · rw [if_neg e, sg_lt]
          have : ¬ (a.natAbs : Int) = b.natAbs := fun z => e (sg_zero.mpr z)
          omega
      rw [split] at h g ⊢
      omega
    | .tru i, .tru j, .tru k, _, _, h, g =>
      rw [Vl.cp] at h g ⊢
      try dsimp only at h g ⊢
      cases i <;> cases j <;> cases k <;> simp at *
    | .txt x, .txt y, .txt z, _, _, h, g =>
      rw [Vl.cp] at h g ⊢
      try dsimp only at h g ⊢
      by_cases a : x.length = y.length
      · rw [if_pos a] at h
        by_cases b : y.length = z.length
        · rw [if_pos b] at g
          rw [if_pos (a.trans b)]
          exact sgT_trans h g
        · rw [if_neg b, sg_lt] at g
          rw [if_neg (by omega), sg_lt]
          omega
      · rw [if_neg a, sg_lt] at h
        by_cases b : y.length = z.length
        · rw [if_neg (by omega), sg_lt]; omega
        · rw [if_neg b, sg_lt] at g
          rw [if_neg (by omega), sg_lt]; omega
    | .lst x, .lst y, .lst z, _, _, h, g =>
      rw [Vl.cp] at h g ⊢
      try dsimp only at h g ⊢
      by_cases a : x.kds.length = y.kds.length
      · rw [if_pos a] at h
        by_cases b : y.kds.length = z.kds.length
        · rw [if_pos b] at g
          rw [if_pos (a.trans b)]
          exact Vls.cp_trans x y z h g
        · rw [if_neg b, sg_lt] at g
          rw [if_neg (by omega), sg_lt]
          omega
      · rw [if_neg a, sg_lt] at h
        by_cases b : y.kds.length = z.kds.length
        · rw [if_neg (by omega), sg_lt]; omega
        · rw [if_neg b, sg_lt] at g
          rw [if_neg (by omega), sg_lt]; omega
    | .rcd x, .rcd y, .rcd z, _, _, h, g =>
      rw [Vl.cp] at h g ⊢
      try dsimp only at h g ⊢
      by_cases a : x.kds.length = y.kds.length
      · rw [if_pos a] at h
        by_cases b : y.kds.length = z.kds.length
        · rw [if_pos b] at g
          rw [if_pos (a.trans b)]
          rw [Fls.cpn_lex] at h g ⊢
          have lx : (x.toL.map (·.1)).length = (y.toL.map (·.1)).length := by rw [List.length_map, List.length_map, ← Fls.kds_len, ← Fls.kds_len, a]
          have ly : (y.toL.map (·.1)).length = (z.toL.map (·.1)).length := by rw [List.length_map, List.length_map, ← Fls.kds_len, ← Fls.kds_len, b]
          by_cases c : lexT (x.toL.map (·.1)) (y.toL.map (·.1)) = 0
          · rw [if_pos c] at h
            rw [lexT_zero _ _ lx c]
            by_cases d : lexT (y.toL.map (·.1)) (z.toL.map (·.1)) = 0
            · rw [if_pos d] at g ⊢
              exact Fls.cp_trans x y z h g
            · rw [if_neg d] at g ⊢; exact g
          · rw [if_neg c] at h
            by_cases d : lexT (y.toL.map (·.1)) (z.toL.map (·.1)) = 0
            · rw [← lexT_zero _ _ ly d, if_neg c]; exact h
            · rw [if_neg d] at g
              have := lexT_trans _ _ _ h g
              rw [if_neg (by omega)]; exact this
        · rw [if_neg b, sg_lt] at g
          rw [if_neg (by omega), sg_lt]
          omega
      · rw [if_neg a, sg_lt] at h
        by_cases b : y.kds.length = z.kds.length
        · rw [if_neg (by omega), sg_lt]; omega
        · rw [if_neg b, sg_lt] at g
          rw [if_neg (by omega), sg_lt]; omega
    | .num _, .txt _, _, e, _, _, _ => simp [Vl.kn] at e
    | .num _, .tru _, _, e, _, _, _ => simp [Vl.kn] at e
    | .num _, .lst _, _, e, _, _, _ => simp [Vl.kn] at e
    | .num _, .rcd _, _, e, _, _, _ => simp [Vl.kn] at e
    | .txt _, .num _, _, e, _, _, _ => simp [Vl.kn] at e
    | .txt _, .tru _, _, e, _, _, _ => simp [Vl.kn] at e
    | .txt _, .lst _, _, e, _, _, _ => simp [Vl.kn] at e
    | .txt _, .rcd _, _, e, _, _, _ => simp [Vl.kn] at e
    | .tru _, .num _, _, e, _, _, _ => simp [Vl.kn] at e
    | .tru _, .txt _, _, e, _, _, _ => simp [Vl.kn] at e
    | .tru _, .lst _, _, e, _, _, _ => simp [Vl.kn] at e
    | .tru _, .rcd _, _, e, _, _, _ => simp [Vl.kn] at e
    | .lst _, .num _, _, e, _, _, _ => simp [Vl.kn] at e
    | .lst _, .txt _, _, e, _, _, _ => simp [Vl.kn] at e
    | .lst _, .tru _, _, e, _, _, _ => simp [Vl.kn] at e
    | .lst _, .rcd _, _, e, _, _, _ => simp [Vl.kn] at e
    | .rcd _, .num _, _, e, _, _, _ => simp [Vl.kn] at e
    | .rcd _, .txt _, _, e, _, _, _ => simp [Vl.kn] at e
    | .rcd _, .tru _, _, e, _, _, _ => simp [Vl.kn] at e
    | .rcd _, .lst _, _, e, _, _, _ => simp [Vl.kn] at e
    | _, .num _, .txt _, _, e, _, _ => simp [Vl.kn] at e
    | _, .num _, .tru _, _, e, _, _ => simp [Vl.kn] at e
    | _, .num _, .lst _, _, e, _, _ => simp [Vl.kn] at e
    | _, .num _, .rcd _, _, e, _, _ => simp [Vl.kn] at e
    | _, .txt _, .num _, _, e, _, _ => simp [Vl.kn] at e
    | _, .txt _, .tru _, _, e, _, _ => simp [Vl.kn] at e
    | _, .txt _, .lst _, _, e, _, _ => simp [Vl.kn] at e
    | _, .txt _, .rcd _, _, e, _, _ => simp [Vl.kn] at e
    | _, .tru _, .num _, _, e, _, _ => simp [Vl.kn] at e
    | _, .tru _, .txt _, _, e, _, _ => simp [Vl.kn] at e
    | _, .tru _, .lst _, _, e, _, _ => simp [Vl.kn] at e
    | _, .tru _, .rcd _, _, e, _, _ => simp [Vl.kn] at e
    | _, .lst _, .num _, _, e, _, _ => simp [Vl.kn] at e
    | _, .lst _, .txt _, _, e, _, _ => simp [Vl.kn] at e
    | _, .lst _, .tru _, _, e, _, _ => simp [Vl.kn] at e
    | _, .lst _, .rcd _, _, e, _, _ => simp [Vl.kn] at e
    | _, .rcd _, .num _, _, e, _, _ => simp [Vl.kn] at e
    | _, .rcd _, .txt _, _, e, _, _ => simp [Vl.kn] at e
    | _, .rcd _, .tru _, _, e, _, _ => simp [Vl.kn] at e
    | _, .rcd _, .lst _, _, e, _, _ => simp [Vl.kn] at e
theorem Vls.cp_trans : ∀ u v w : Vls, u.cp v < 0 → v.cp w < 0 → u.cp w < 0
  | .nil, _, _, h, _ => by simp [Vls.cp] at h
  | .cons _ _, .nil, _, h, _ => by simp [Vls.cp] at h
  | .cons _ _, .cons _ _, .nil, _, h => by simp [Vls.cp] at h
  | .cons a r, .cons b s, .cons c t, h, g => by
    rw [Vls.cp] at h g ⊢
    try dsimp only at h g ⊢
    by_cases e : a.cp b = 0
    · have := (Vl.cp_zero a b).mp e
      rw [if_pos e] at h
      rw [this]
      by_cases e2 : b.cp c = 0
      · rw [if_pos e2] at g ⊢
        exact Vls.cp_trans r s t h g
      · rw [if_neg e2] at g ⊢; exact g
    · rw [if_neg e] at h
      by_cases e2 : b.cp c = 0
      · have := (Vl.cp_zero b c).mp e2
        rw [← this, if_neg e]; exact h
      · rw [if_neg e2] at g
        have := Vl.cp_trans a b c h g
        rw [if_neg (by omega)]; exact this
theorem Fls.cp_trans : ∀ u v w : Fls, u.cp v < 0 → v.cp w < 0 → u.cp w < 0
  | .nil, _, _, h, _ => by simp [Fls.cp] at h
  | .cons _ _ _, .nil, _, h, _ => by simp [Fls.cp] at h
  | .cons _ _ _, .cons _ _ _, .nil, _, h => by simp [Fls.cp] at h
  | .cons _ a r, .cons _ b s, .cons _ c t, h, g => by
    rw [Fls.cp] at h g ⊢
    try dsimp only at h g ⊢
    by_cases e : a.cp b = 0
    · have := (Vl.cp_zero a b).mp e
      rw [if_pos e] at h
      rw [this]
      by_cases e2 : b.cp c = 0
      · rw [if_pos e2] at g ⊢
        exact Fls.cp_trans r s t h g
      · rw [if_neg e2] at g ⊢; exact g
    · rw [if_neg e] at h
      by_cases e2 : b.cp c = 0
      · have := (Vl.cp_zero b c).mp e2
        rw [← this, if_neg e]; exact h
      · rw [if_neg e2] at g
        have := Vl.cp_trans a b c h g
        rw [if_neg (by omega)]; exact this
end
/-! rows in order -/
theorem Vl.le_trans {u v w : Vl} (h : u.cp v ≤ 0) (g : v.cp w ≤ 0) : u.cp w ≤ 0 := by
  by_cases a : u.cp v = 0
  · rw [(Vl.cp_zero u v).mp a]; exact g
  · by_cases b : v.cp w = 0
    · rw [← (Vl.cp_zero v w).mp b]; exact h
    · have := Vl.cp_trans u v w (by omega) (by omega)
      omega
def inRow (ps : List Vl) : Prop := ps.Pairwise fun a b => a.cp b ≤ 0
theorem inRow_at {one : Vl} : ∀ {ps : List Vl}, inRow ps → (∀ a ∈ ps.take (ps.filter fun v => decide (v.cp one < 0)).length, a.cp one < 0) ∧ ∀ b ∈ ps.drop (ps.filter fun v => decide (v.cp one < 0)).length, 0 ≤ b.cp one
  | [], _ => ⟨fun a m => by simp at m, fun a m => by simp at m⟩
  | p :: ps, h => by
    obtain ⟨h1, h2⟩ := List.pairwise_cons.mp h
    by_cases e : p.cp one < 0
    · rw [List.filter_cons_of_pos (by simpa using e), List.length_cons, List.take_succ_cons, List.drop_succ_cons]
      obtain ⟨i1, i2⟩ := inRow_at (ps := ps) h2
      refine ⟨fun a m => ?_, i2⟩
      rcases List.mem_cons.mp m with m | m
      · rw [m]; exact e
      · exact i1 a m
    · have all : ∀ q ∈ p :: ps, 0 ≤ q.cp one := fun q m => by
        rcases List.mem_cons.mp m with m | m
        · rw [m]; omega
        · have k := h1 q m
          by_cases z : q.cp one < 0
          · have := Vl.le_trans k (Int.le_of_lt z)
            have k0 : p.cp one = 0 := by omega
            rw [(Vl.cp_zero p one).mp k0] at k
            have := Vl.cp_neg q one
            omega
          · omega
      have z : ((p :: ps).filter fun v => decide (v.cp one < 0)) = [] := by
        rw [List.filter_eq_nil_iff]
        intro q m
        have := all q m
        simp; omega
      rw [z]
      exact ⟨fun a m => by simp at m, fun b m => all b (by simpa using m)⟩
theorem inRow_ins {one : Vl} {ps : List Vl} (h : inRow ps) : inRow (ps.take (ps.filter fun v => decide (v.cp one < 0)).length ++ one :: ps.drop (ps.filter fun v => decide (v.cp one < 0)).length) := by
  obtain ⟨a, b⟩ := inRow_at (one := one) h
  generalize (ps.filter fun v => decide (v.cp one < 0)).length = k at *
  have sp := List.take_append_drop k ps
  unfold inRow at h
  rw [← sp, List.pairwise_append] at h
  unfold inRow
  rw [List.pairwise_append, List.pairwise_cons]
  refine ⟨h.1, ⟨fun y m => ?_, h.2.1⟩, fun x m y my => ?_⟩
  · have := b y m
    have := Vl.cp_neg y one
    omega
  · rcases List.mem_cons.mp my with e | my
    · rw [e]; exact Int.le_of_lt (a x m)
    · exact h.2.2 x m y my
theorem inRow_get {ps : List Vl} (h : inRow ps) {j k : Nat} (jk : j < k) (hk : k < ps.length) : (ps[j]'(by omega)).cp ps[k] ≤ 0 := List.pairwise_iff_getElem.mp h j k (by omega) hk jk
theorem Over.set {h h' : Hm} (o : Over h h') {m : Nat} {ob : O} (hm : h.length ≤ m) : Over h (h'.set m ob) := by
  refine ⟨by rw [List.length_set]; exact o.1, ?_⟩
  rw [List.take_set_of_le hm]
  exact o.2
theorem Over.hAt {h h' : Hm} (o : Over h h') {i : Nat} {ob : O} (e : MP.hAt h i = some ob) : MP.hAt h' i = some ob := (o.get (hAt_lt e)).trans e
/-! insert, count -/
@[simp] theorem keeps_count : Mth.count.keeps = false := rfl
@[simp] theorem ty_insert {h : Hm} {n : Nat} : mthTy .insert (.v (.ref n)) h = true ↔ HK (MP.hAt h n) (fun _ => True) fun _ => False := lst_hk
@[simp] theorem ty_count {h : Hm} {n : Nat} : mthTy .count (.v (.ref n)) h = true ↔ HK (MP.hAt h n) (fun _ => True) fun _ => False := lst_hk
@[simp] theorem m_insert {h : Hm} {n : Nat} {i : Int} {d : D} {Q : RV → Hm → Prop} : Sat (mthF .insert (.v (.ref n)) [.v (.int i), .v d] h) Q ↔ HK (MP.hAt h n) (fun xs => (xs.length < SL ∧ 0 ≤ i ∧ i < 2 ^ 62) ∧ Q (.v .non) (h.set n (.lst (xs.take i.toNat ++ [d] ++ xs.drop i.toNat)))) fun _ => False := by
  unfold MP.hAt
  unfold mthF
  dsimp only
  cases h[n]? with
  | none => exact Iff.rfl
  | some o =>
    cases o with
    | lst xs => exact sat_ite
    | _ => exact Iff.rfl
theorem m_count {h : Hm} {n : Nat} {b : Bool} {bs : List Bool} {Q : RV → Hm → Prop} (e : MP.hAt h n = some (.lst (bs.map .bl))) (q : Q (.v (.int (bs.count b : Nat))) h) : Sat (mthF .count (.v (.ref n)) [.v (.bl b)] h) Q := by
  have e2 : RV.lst? h (.v (.ref n)) = some (bs.map .bl) := (isL_r e).2
  unfold mthF
  dsimp only
  rw [e2]
  dsimp only
  rw [bls_map]
  exact q
theorem sat_cellsN {ts : List Nat} {body : Env → Hm → Res Out} {σ : Env} {h : Hm} {Q : Out → Hm → Prop} (ns : List Int) {J : Int} (j0 : 0 ≤ J) (j1 : J ≤ 63) (I : Nat → Env → Hm → Prop) (start : I 0 σ h)
    (step : ∀ (i : Nat) (cell : Int) σ h, i < 63 → I i σ h → OK (setSlots σ ts [.int (i : Int), .int cell]) fun σ1 => Sat (body σ1 h) fun o h2 => LK o (fun σ2 => I (i + 1) σ2 h2) (fun σ2 => Q (.nx σ2) h2) fun d => Q (.rt d) h2)
    (fin : ∀ i σ h, i ≤ 63 → I i σ h → Q (.nx σ) h) : (cut (ns.map D.int) none (some J)).length ≤ SL ∧ Sat (forL (tgF (.tp ts)) body [] (numbered 0 (cut (ns.map D.int) none (some J))) σ h) Q := by
  obtain ⟨j, rfl⟩ : ∃ j : Nat, J = (j : Int) := ⟨J.toNat, by omega⟩
  rw [cut_pre']
  have ll : ((ns.map D.int).take j).length ≤ 63 := by rw [List.length_take]; omega
  refine ⟨by show _ ≤ 16777216; omega, ?_⟩
  refine sat_forX (fun i σ h => I i σ h) start ?_ ?_
  · intro i x σ h ex z
    have hi : i < 63 := by
      have := (List.getElem?_eq_some_iff.mp ex).1
      rw [numbered_length] at this
      omega
    obtain ⟨y, ey, rfl⟩ := numbered_at _ _ _ _ ex
    have ey := List.mem_of_getElem? ey
    have ey := List.mem_of_mem_take ey
    obtain ⟨cell, _, rfl⟩ := List.mem_map.mp ey
    refine ⟨hc_nil, ?_⟩
    have := step i cell σ h hi z
    rw [tg_tp, Nat.zero_add]
    exact this
  · intro σ h z
    rw [numbered_length] at z
    exact ⟨hc_nil, fin _ σ h ll z⟩
theorem isk_enc {h : Hm} {v : Vl} {Q : RV → Hm → Prop} : IsK [.tuple] (.v v.enc) h Q ↔ Q (.v (.bl (decide (2 < v.kn)))) h := by
  cases v <;> rw [Vl.enc] <;> simp [isTy, Vl.kn]
theorem Gv.vl {w n : Nat} {d : D} (g : Gv w n d) (hw : w ≤ 62) (hn : n ≤ 20) : ∃ v : Vl, d = v.enc ∧ v.ok 62 20 = true := g.up hw hn
end MP

/-! MT: things, some of them values. -/
namespace MP
open PySem
/-- things: rows and texts none too long, at most n deep -/
def Tg : Nat → D → Bool
  | 0 => fun _ => false
  | n + 1 => fun d => match d with
    | .tup xs => decide (xs.length ≤ 100) && xs.all (Tg n)
    | .str x => isAscii x && decide (x.length ≤ 1000)
    | .fz _ => false
    | .fn _ => false
    | _ => true
theorem Tg_tup {n : Nat} {xs : List D} (l : xs.length ≤ 100) (g : ∀ x ∈ xs, Tg n x = true) : Tg (n + 1) (.tup xs) = true := by
  show (decide (xs.length ≤ 100) && xs.all (Tg n)) = true
  rw [Bool.and_eq_true, List.all_eq_true]
  exact ⟨decide_eq_true l, g⟩
theorem Tg_mem {n : Nat} {xs : List D} (h : Tg (n + 1) (.tup xs) = true) : xs.length ≤ 100 ∧ ∀ x ∈ xs, Tg n x = true := by
  have h : (decide (xs.length ≤ 100) && xs.all (Tg n)) = true := h
  rw [Bool.and_eq_true, List.all_eq_true] at h
  exact ⟨of_decide_eq_true h.1, h.2⟩
theorem Tg_str {n : Nat} {x : Tx} (h : Tg n (.str x) = true) : isAscii x = true ∧ x.length ≤ 1000 := by
  cases n with
  | zero => cases h
  | succ n =>
    have h : (isAscii x && decide (x.length ≤ 1000)) = true := h
    rw [Bool.and_eq_true] at h
    exact ⟨h.1, of_decide_eq_true h.2⟩
theorem Tg_up : ∀ {n m : Nat} {d : D}, n ≤ m → Tg n d = true → Tg m d = true
  | 0, _, _, _, h => by cases h
  | n + 1, 0, _, l, _ => by omega
  | n + 1, m + 1, d, l, h => by
    cases d with
    | tup xs =>
      obtain ⟨a, b⟩ := Tg_mem h
      exact Tg_tup a fun x mx => Tg_up (by omega) (b x mx)
    | _ => exact h
theorem Gv.tg : ∀ {n w : Nat} {d : D}, Gv w n d → w ≤ 100 → Tg (3 * n) d = true
  | 0, w, d, g, _ => by
    obtain ⟨v, e, o⟩ := g
    exact absurd (Vl.ok_pos o) (Nat.lt_irrefl _)
  | n + 1, w, d, g, hw => by
    cases g.is with
    | num i => rfl
    | tru b => rfl
    | txt x a l =>
      show (isAscii x && decide (x.length ≤ 1000)) = true
      rw [az_ascii a, decide_eq_true (by omega)]; rfl
    | lst ds gd l =>
      refine Tg_tup (n := 3 * n + 2) (by simp) fun x m => ?_
      rcases List.mem_cons.mp m with e | m
      · rw [e]; rfl
      rw [List.mem_singleton.mp m]
      exact Tg_tup (by omega) fun y my => Tg_up (by omega) ((gd y my).tg hw)
    | rcd ds gd l =>
      refine Tg_tup (n := 3 * n + 2) (by simp) fun x m => ?_
      rcases List.mem_cons.mp m with e | m
      · rw [e]; rfl
      rw [List.mem_singleton.mp m]
      refine Tg_tup (n := 3 * n + 1) (by omega) fun y my => ?_
      obtain ⟨z, v, rfl, a, b, gv⟩ := gd y my
      have hn : 0 < n := by
        obtain ⟨v, e, o⟩ := gv
        exact Vl.ok_pos o
      refine Tg_tup (n := 3 * n) (by simp) fun x mx => ?_
      rcases List.mem_cons.mp mx with e | mx
      · rw [e]
        obtain ⟨k, rfl⟩ : ∃ k, n = k + 1 := ⟨n - 1, by omega⟩
        show (isAscii z && decide (z.length ≤ 1000)) = true
        rw [az_ascii a, decide_eq_true (by omega)]; rfl
      · rw [List.mem_singleton.mp mx]
        exact gv.tg hw
mutual
def D.sz : D → Nat
  | .tup xs => D.szs xs + 1
  | .fz _ => 1
  | .non => 1
  | .bl _ => 1
  | .int _ => 1
  | .str _ => 1
  | .ref _ => 1
  | .fn _ => 1
def D.szs : List D → Nat
  | [] => 0
  | d :: r => D.sz d + D.szs r
end
theorem sz_pos : ∀ d : D, 0 < d.sz
  | .tup xs => by rw [D.sz]; omega
  | .fz _ => by rw [D.sz]; omega
  | .non => by rw [D.sz]; omega
  | .bl _ => by rw [D.sz]; omega
  | .int _ => by rw [D.sz]; omega
  | .str _ => by rw [D.sz]; omega
  | .ref _ => by rw [D.sz]; omega
  | .fn _ => by rw [D.sz]; omega
theorem szs_app : ∀ xs ys : List D, D.szs (xs ++ ys) = D.szs xs + D.szs ys
  | [], ys => by rw [D.szs, List.nil_append]; omega
  | x :: xs, ys => by rw [List.cons_append, D.szs, D.szs, szs_app xs ys]; omega
theorem szs_le {B : Nat} : ∀ {xs : List D}, (∀ x ∈ xs, x.sz ≤ B) → D.szs xs ≤ xs.length * B
  | [], _ => by rw [D.szs]; omega
  | x :: xs, h => by
    rw [D.szs, List.length_cons, Nat.succ_mul]
    have := h x List.mem_cons_self
    have := szs_le fun y m => h y (List.mem_cons_of_mem _ m)
    omega
theorem szs_map {f : D → D} : ∀ {xs : List D}, (∀ x ∈ xs, (f x).sz ≤ x.sz) → D.szs (xs.map f) ≤ D.szs xs
  | [], _ => Nat.le_refl _
  | x :: xs, h => by
    rw [List.map_cons, D.szs, D.szs]
    have := h x List.mem_cons_self
    have := szs_map fun y m => h y (List.mem_cons_of_mem _ m)
    omega
theorem Tg_sz : ∀ {n : Nat} {d : D}, Tg n d = true → d.sz ≤ 102 ^ n
  | 0, _, h => by cases h
  | n + 1, d, h => by
    have p : 0 < 102 ^ n := Nat.pow_pos (by decide)
    rw [Nat.pow_succ]
    cases d with
    | tup xs =>
      obtain ⟨a, b⟩ := Tg_mem h
      have := szs_le fun x m => Tg_sz (b x m)
      have := Nat.mul_le_mul_right (102 ^ n) a
      rw [D.sz]; omega
    | _ => rw [D.sz]; omega
/-! ### which are values -/
def plainT : D → Bool
  | .int _ => true
  | .bl _ => true
  | .str x => isAz x
  | _ => false
def isTx : D → Bool
  | .str x => isAz x
  | _ => false
def isNm : D → Bool
  | .str x => isAz x && !x.isEmpty
  | _ => false
def isPr : D → Bool
  | .tup [a, _] => isNm a
  | _ => false
def txOf : D → Tx
  | .str x => x
  | _ => []
def prN : D → D
  | .tup [a, _] => a
  | _ => .non
def prV : D → D
  | .tup [_, v] => v
  | _ => .non
def risT (ts : List Tx) : Bool := (List.range (ts.length - 1)).all fun j => ltT (ts[j]?.getD []) (ts[j + 1]?.getD [])
def innerT : D → Option (List D)
  | .tup [.str t, .tup ys] => if t = tList then some ys else if t = tRec then (if ys.all isPr && risT (ys.map fun p => txOf (prN p)) then some (ys.map prV) else none) else none
  | _ => none
def isV : Nat → D → Bool
  | 0 => fun _ => false
  | n + 1 => fun d => plainT d || (match innerT d with
    | some zs => zs.all (isV n)
    | none => false)
/-- what has things within -/
theorem innerT_some {d : D} {zs : List D} (e : innerT d = some zs) : ∃ t ys, d = .tup [.str t, .tup ys] ∧ ((t = tList ∧ zs = ys) ∨ (t = tRec ∧ ys.all isPr = true ∧ zs = ys.map prV)) := by
  unfold innerT at e
  split at e
  · rename_i t ys
    refine ⟨t, ys, rfl, ?_⟩
    split at e
    · rename_i h; cases e; exact .inl ⟨h, rfl⟩
    · split at e
      · rename_i h
        split at e
        · rename_i h2
          rw [Bool.and_eq_true] at h2
          cases e; exact .inr ⟨h, h2.1, rfl⟩
        · cases e
      · cases e
  · cases e
theorem isPr_tup {p : D} (h : isPr p = true) : ∃ x v, p = .tup [.str x, v] ∧ isAz x = true ∧ x.isEmpty = false := by
  unfold isPr at h
  split at h
  · rename_i a v
    unfold isNm at h
    split at h
    · rename_i x
      rw [Bool.and_eq_true] at h
      exact ⟨x, v, rfl, h.1, by simpa using h.2⟩
    · cases h
  · cases h
theorem innerT_tg {n : Nat} {d : D} {zs : List D} (g : Tg (n + 1) d = true) (e : innerT d = some zs) : (∀ z ∈ zs, Tg n z = true) ∧ D.szs zs + 1 < d.sz ∧ zs.length ≤ 100 := by
  obtain ⟨t, ys, rfl, h⟩ := innerT_some e
  obtain ⟨_, g1⟩ := Tg_mem g
  have g2 := g1 (.tup ys) (by simp)
  cases n with
  | zero => cases g2
  | succ n =>
    obtain ⟨l3, g3⟩ := Tg_mem g2
    have e1 : (D.tup [.str t, .tup ys]).sz = D.szs ys + 3 := by simp only [D.sz, D.szs]; omega
    rcases h with ⟨_, rfl⟩ | ⟨_, hp, rfl⟩
    · exact ⟨fun z m => Tg_up (by omega) (g3 z m), by omega, l3⟩
    · rw [List.all_eq_true] at hp
      refine ⟨fun z m => ?_, ?_, by rw [List.length_map]; exact l3⟩
      · obtain ⟨p, mp, rfl⟩ := List.mem_map.mp m
        obtain ⟨x, v, rfl, _, _⟩ := isPr_tup (hp p mp)
        cases n with
        | zero => cases g3 _ mp
        | succ n => exact Tg_up (by omega) ((Tg_mem (g3 _ mp)).2 v (by simp))
      · have : D.szs (ys.map prV) ≤ D.szs ys := szs_map fun p mp => by
          obtain ⟨x, v, rfl, _, _⟩ := isPr_tup (hp p mp)
          show v.sz ≤ _
          simp only [D.sz, D.szs]; omega
        omega
theorem innerT_tm {h : Hm} {d : D} {zs : List D} (g : Tm h d = true) (e : innerT d = some zs) : ∀ z ∈ zs, Tm h z = true := by
  obtain ⟨t, ys, rfl, k⟩ := innerT_some e
  rw [Tm] at g
  have g2 := tms_mem g (.tup ys) (by simp)
  rw [Tm] at g2
  have g3 := tms_mem g2
  rcases k with ⟨_, rfl⟩ | ⟨_, hp, rfl⟩
  · exact g3
  · rw [List.all_eq_true] at hp
    intro z m
    obtain ⟨p, mp, rfl⟩ := List.mem_map.mp m
    obtain ⟨x, v, rfl, _, _⟩ := isPr_tup (hp p mp)
    have := g3 _ mp
    rw [Tm] at this
    exact tms_mem this v (by simp)
theorem isV_up : ∀ {n m : Nat} {d : D}, Tg n d = true → n ≤ m → isV m d = isV n d
  | 0, _, _, h, _ => by cases h
  | n + 1, 0, _, _, l => by omega
  | n + 1, m + 1, d, h, l => by
    show (plainT d || (match innerT d with | some zs => zs.all (isV m) | none => false)) = (plainT d || (match innerT d with | some zs => zs.all (isV n) | none => false))
    cases e : innerT d with
    | none => rfl
    | some zs =>
      dsimp only
      rw [all_congr' fun z mz => isV_up ((innerT_tg h e).1 z mz) (show n ≤ m by omega)]
theorem tm_cl {h : Hm} : ∀ d : D, Tm h d = true → d.cl h.length = true := by
  have key : ∀ m, Tm h (.ref m) = true → m < h.length := fun m e => by
    rw [Tm] at e
    cases q : hAt h m with
    | none => rw [q] at e; cases e
    | some o => exact hAt_lt q
  have go : ∀ (k : Nat) (d : D), d.sz ≤ k → Tm h d = true → d.cl h.length = true := by
    intro k
    induction k with
    | zero => intro d l; have := sz_pos d; omega
    | succ k ih =>
      intro d l e
      cases d with
      | tup xs =>
        rw [Tm] at e
        rw [D.sz] at l
        have cls : ∀ ys : List D, D.szs ys ≤ k → Tms h ys = true → D.cls h.length ys = true := fun ys => by
          induction ys with
          | nil => intro _ _; rfl
          | cons y ys ih2 =>
            intro l2 e2
            rw [D.szs] at l2
            rw [Tms, Bool.and_eq_true] at e2
            rw [D.cls, ih y (by omega) e2.1, ih2 (by omega) e2.2]; rfl
        rw [D.cl]
        exact cls xs (by omega) e
      | ref m => rw [D.cl]; exact decide_eq_true (key m e)
      | fz _ => rw [Tm] at e; cases e
      | fn _ => rw [Tm] at e; cases e
      | non => rfl
      | bl _ => rfl
      | int _ => rfl
      | str _ => rfl
  exact fun d e => go d.sz d (Nat.le_refl _) e
theorem tm_cls {h : Hm} {ds : List D} (e : ∀ d ∈ ds, Tm h d = true) : D.cls h.length ds = true := by
  have := tm_cl (h := h) (.tup ds) (by rw [Tm]; exact tms_of e)
  rwa [D.cl] at this
def azL : Tx := [97, 98, 99, 100, 101, 102, 103, 104, 105, 106, 107, 108, 109, 110, 111, 112, 113, 114, 115, 116, 117, 118, 119, 120, 121, 122]
theorem mem_azL (c : Nat) : decide (c ∈ azL) = (decide (97 ≤ c) && decide (c ≤ 122)) := by
  rw [Bool.eq_iff_iff, decide_eq_true_eq, Bool.and_eq_true, decide_eq_true_eq, decide_eq_true_eq]
  unfold azL
  simp only [List.mem_cons, List.mem_nil_iff, or_false]
  omega
theorem c_notL {c : Nat} {h : Hm} : copB .notin (.v (.str [c])) (.v (.str azL)) h = some (!(decide (97 ≤ c) && decide (c ≤ 122))) := by
  rw [← mem_azL]; rfl
@[simp] theorem c_ges {x y : Tx} {h : Hm} : copB .ge (.v (.str x)) (.v (.str y)) h = some (!ltT x y) := rfl
theorem szs_len : ∀ xs : List D, xs.length ≤ D.szs xs
  | [] => Nat.le_refl _
  | x :: xs => by
    rw [D.szs, List.length_cons]
    have := sz_pos x
    have := szs_len xs
    omega
theorem over_keeps {h h' : Hm} (o : Over h h') : Keeps h h' := fun m e => by
  rw [Tm] at e ⊢
  cases q : MP.hAt h m with
  | none => rw [q] at e; cases e
  | some ob => rw [o.hAt q]; rw [q] at e; exact e
theorem dropLast_at {α : Type} {zs : List α} {y : α} (e : zs[zs.length - 1]? = some y) : zs = zs.dropLast ++ [y] := by
  have hl := (List.getElem?_eq_some_iff.mp e).1
  have hne : zs ≠ [] := fun z => by subst z; simp at hl
  have : y = zs.getLast hne := by
    rw [List.getLast_eq_getElem]
    obtain ⟨_, h2⟩ := List.getElem?_eq_some_iff.mp e
    exact h2.symm
  rw [this, List.dropLast_concat_getLast]
theorem m_extr {h : Hm} {n m : Nat} {xs ys : List D} {Q : RV → Hm → Prop} (e1 : MP.hAt h n = some (.lst xs)) (e2 : MP.hAt h m = some (.lst ys)) (l : xs.length + ys.length ≤ SL) (q : Q (.v .non) (h.set n (.lst (xs ++ ys)))) : Sat (mthF .extend (.v (.ref n)) [.v (.ref m)] h) Q := by
  unfold mthF
  dsimp only
  unfold MP.hAt at e1 e2
  have e3 : RV.trk? h (.v (.ref m)) = some ys := by
    show listAt h m = some ys
    unfold listAt
    rw [e2]
  rw [e1, e3]
  dsimp only
  rw [if_pos l]
  exact q
theorem atI_last {α : Type} {xs : List α} (h : xs ≠ []) : atI xs (-1) = xs[xs.length - 1]? := by
  have := List.length_pos_iff.mpr h
  unfold atI ixN
  rw [if_neg (by decide), if_pos (by omega)]
  dsimp only
  congr 1
  omega
theorem risT_iff {ts : List Tx} : risT ts = true ↔ ∀ j, j + 1 < ts.length → ltT (ts[j]?.getD []) (ts[j + 1]?.getD []) = true := by
  unfold risT
  rw [List.all_eq_true]
  constructor
  · intro h j l
    exact h j (List.mem_range.mpr (by omega))
  · intro h j m
    exact h j (by have := List.mem_range.mp m; omega)
section
variable {G : Nat → D} {cf : Nat → List D → Hm → Res D} {σ : Env} {h : Hm}
@[simp] theorem w_dic1 {k v : ME} {Q : RV → Hm → Prop} : Sat (evE G cf (.dic1 k v) σ h) Q ↔ Sat (evE G cf k σ (h ++ [.dic []])) fun x h1 => Sat (evE G cf v σ h1) fun y h2 => Sat (dic1F h.length x y h2) Q := by
  rw [evE, sat_bind]
  exact sat_congr fun x h1 => sat_bind
@[simp] theorem dic1_str {n : Nat} {x : Tx} {d : D} {h : Hm} {Q : RV → Hm → Prop} : Sat (dic1F n (.v (.str x)) (.v d) h) Q ↔ MP.hAt h n = some (.dic []) ∧ Q (.v (.ref n)) (h.set n (.dic [(.str x, d)])) := by
  unfold dic1F MP.hAt
  constructor
  · intro q
    split at q
    · rename_i d2 e e2
      cases e
      exact ⟨e2, q⟩
    · exact q.elim
  · rintro ⟨e, q⟩
    rw [e]
    exact q
end
end MP

/-! MD: dicts walked. -/
namespace MP
open PySem
theorem lkAt_of {σ : Env} {i n : Nat} {h : Hm} {kvs : List (D × D)} (e1 : σ[i]? = some (some (.ref n))) (e2 : MP.hAt h n = some (.dic kvs)) : lkAt σ i h = some (n, kvs) := by
  unfold lkAt
  unfold MP.hAt at e2
  rw [e1]
  dsimp only
  rw [e2]
theorem sat_unlk {α : Type} {n : Nat} {r : α} {h : Hm} {kvs : List (D × D)} {Q : α → Hm → Prop} (e : MP.hAt h n = some (.fdc kvs)) (q : Q r (h.set n (.dic kvs))) : Sat (unlk n r h) Q := by
  unfold unlk
  unfold MP.hAt at e
  rw [e]
  exact q
theorem sat_noexc {α : Type} {r : Res α} {Q : α → Hm → Prop} (s : Sat r Q) : Sat r.noexc Q := by
  cases r with
  | ok a h => exact s
  | _ => exact s.elim
section
variable {G : Nat → D} {cf : Nat → List D → Hm → Res D} {σ : Env} {h : Hm}
theorem sat_lk {i n : Nat} {kvs : List (D × D)} {e : ME} {Q : RV → Hm → Prop} (e1 : σ[i]? = some (some (.ref n))) (e2 : MP.hAt h n = some (.dic kvs))
    (s : Sat (evE G cf e σ (h.set n (.fdc kvs))) fun r h1 => ∃ ks, MP.hAt h1 n = some (.fdc ks) ∧ Q r (h1.set n (.dic ks))) : Sat (evE G cf (.lk i e) σ h) Q := by
  rw [evE, lkAt_of e1 e2]
  dsimp only
  rw [sat_bind]
  exact (sat_noexc s).mono fun r h1 ⟨ks, q1, q2⟩ => sat_unlk q1 q2
theorem sat_lks {i n : Nat} {kvs : List (D × D)} {a : MS} {Q : Out → Hm → Prop} (e1 : σ[i]? = some (some (.ref n))) (e2 : MP.hAt h n = some (.dic kvs))
    (s : Sat (evS G cf a σ (h.set n (.fdc kvs))) fun r h1 => ∃ ks, MP.hAt h1 n = some (.fdc ks) ∧ Q r (h1.set n (.dic ks))) : Sat (evS G cf (.lks i a) σ h) Q := by
  rw [evS, lkAt_of e1 e2]
  dsimp only
  rw [sat_bind]
  exact (sat_noexc s).mono fun r h1 ⟨ks, q1, q2⟩ => sat_unlk q1 q2
theorem set_back {n : Nat} {o o' : O} (e : MP.hAt h n = some o) : (h.set n o').set n o = h := by
  rw [List.set_set]
  unfold MP.hAt at e
  obtain ⟨hl, e2⟩ := List.getElem?_eq_some_iff.mp e
  apply List.ext_getElem?
  intro i
  by_cases hi : i = n
  · subst hi
    rw [List.getElem?_set_self hl, e]
  · rw [List.getElem?_set_ne (Ne.symm hi)]
end
/-! ### a dict of texts -/
/-- its keys are texts of a kind -/
def KxO (P : Tx → Prop) (kvs : List (D × D)) : Prop := ∀ p ∈ kvs, ∃ x, p.1 = .str x ∧ P x
theorem kvPut_kx {P : Tx → Prop} {x : Tx} {e : D} (px : P x) : ∀ {kvs : List (D × D)}, KxO P kvs → KxO P (kvPut kvs (.str x) e (.inr x)) ∧ (kvPut kvs (.str x) e (.inr x)).length ≤ kvs.length + 1
  | [], _ => ⟨fun p m => by
      rw [List.mem_singleton.mp m]; exact ⟨x, rfl, px⟩, Nat.le_refl _⟩
  | (a, w) :: r, h => by
    unfold kvPut
    split
    · refine ⟨fun p m => ?_, by simp⟩
      rcases List.mem_cons.mp m with z | z
      · rw [z]; exact h (a, w) List.mem_cons_self
      · exact h p (List.mem_cons_of_mem _ z)
    · obtain ⟨h1, h2⟩ := kvPut_kx px (e := e) (kvs := r) fun p m => h p (List.mem_cons_of_mem _ m)
      refine ⟨fun p m => ?_, by simp; exact h2⟩
      rcases List.mem_cons.mp m with z | z
      · rw [z]; exact h (a, w) List.mem_cons_self
      · exact h1 p z
theorem kx_keys {P : Tx → Prop} : ∀ {kvs : List (D × D)}, KxO P kvs → ∃ ts : List Tx, kvs.map (·.1) = ts.map D.str ∧ (∀ x ∈ ts, P x) ∧ ts.length = kvs.length
  | [], _ => ⟨[], rfl, (fun _ m => by cases m), rfl⟩
  | (a, w) :: r, h => by
    obtain ⟨x, e, px⟩ := h (a, w) List.mem_cons_self
    obtain ⟨ts, e2, h2, l2⟩ := kx_keys (kvs := r) fun p m => h p (List.mem_cons_of_mem _ m)
    refine ⟨x :: ts, by rw [List.map_cons, List.map_cons, e2]; exact congrArg (· :: _) e, fun y m => ?_, by simp [l2]⟩
    rcases List.mem_cons.mp m with z | z
    · rw [z]; exact px
    · exact h2 y z
theorem strs_map : ∀ ts : List Tx, strs? (ts.map D.str) = some ts
  | [] => rfl
  | x :: ts => by
    show mapO str1? (.str x :: ts.map D.str) = _
    rw [mapO, show mapO str1? (ts.map D.str) = some ts from strs_map ts]; rfl
/-- sorted(texts) -/
theorem b_sortS {ts : List Tx} {h : Hm} {Q : RV → Hm → Prop} (l : ts.length < 64) (q : Q (.l ((srtB leT ts).map .str)) h) : Sat (bltF .sorted [.l (ts.map D.str)] h) Q := by
  show Sat (match itemsK (.l (ts.map D.str)) h with | some xs => sortedF xs h | none => .bad) Q
  have e : itemsK (.l (ts.map D.str)) h = some (ts.map D.str) := rfl
  rw [e]
  show Sat (sortedF (ts.map D.str) h) Q
  unfold sortedF
  rw [if_pos (by rw [List.length_map]; show _ ≤ 16777216; omega)]
  cases ts with
  | nil => exact q
  | cons x ts =>
    have e1 : ints? ((x :: ts).map D.str) = none := by
      show mapO int1? (.str x :: ts.map D.str) = none
      rw [mapO]; rfl
    rw [e1]
    dsimp only
    rw [strs_map]
    exact q
theorem ins_mem {α : Type} {le : α → α → Bool} {x y : α} : ∀ {ys : List α}, y ∈ insB le x ys → y = x ∨ y ∈ ys
  | [], m => .inl (List.mem_singleton.mp m)
  | z :: ys, m => by
    unfold insB at m
    split at m
    · exact (List.mem_cons.mp m)
    · rcases List.mem_cons.mp m with q | q
      · exact .inr (q ▸ List.mem_cons_self)
      · rcases ins_mem q with q | q
        · exact .inl q
        · exact .inr (List.mem_cons_of_mem _ q)
theorem ins_len {α : Type} {le : α → α → Bool} {x : α} : ∀ {ys : List α}, (insB le x ys).length = ys.length + 1
  | [] => rfl
  | z :: ys => by
    unfold insB
    split
    · rfl
    · rw [List.length_cons, ins_len, List.length_cons]
theorem srt_mem {α : Type} {le : α → α → Bool} {y : α} : ∀ {ys : List α}, y ∈ srtB le ys → y ∈ ys
  | [], m => m
  | z :: ys, m => by
    rcases ins_mem m with q | q
    · rw [q]; exact List.mem_cons_self
    · exact List.mem_cons_of_mem _ (srt_mem q)
theorem srt_len {α : Type} {le : α → α → Bool} : ∀ {ys : List α}, (srtB le ys).length = ys.length
  | [] => rfl
  | z :: ys => by
    show (insB le z (srtB le ys)).length = _
    rw [ins_len, srt_len]; rfl
/-! ### y in a row of data -/
theorem any_eqv {n m : Nat} {h : Hm} {d : D} {p : PyData} (a : dt m d = true) (e1 : toP h m d = some p) : ∀ {ds : List D} {qs : List PyData}, (∀ x ∈ ds, dt n x = true) → mapO (toP h n) ds = some qs → (qs.any fun z => PyData.eqv z p) = ds.any fun z => dEq z d
  | [], _, _, e2 => by cases e2; rfl
  | x :: xs, _, b, e2 => by
    rw [mapO] at e2
    split at e2
    · rename_i y ys f1 f2
      cases e2
      rw [List.any_cons, List.any_cons, eqv_dt (b x List.mem_cons_self) a f1 e1, any_eqv a e1 (fun z m => b z (List.mem_cons_of_mem _ m)) f2]
    · cases e2
/-- d in [..] -/
theorem c_inL {h : Hm} {s : RV} {d : D} {ds : List D} (a : dt 62 d = true) (e : IsL h s ds) (b : ∀ x ∈ ds, dt 61 x = true) : copB .inn (.v d) s h = some (ds.any fun z => dEq z d) := by
  obtain ⟨p, e1⟩ := dt_toP (h := h) a
  obtain ⟨qs, e2, _⟩ := mapO_some (f := toP h 61) fun x m => dt_toP (b x m)
  have k : inF h (.v d) s = some (ds.any fun z => dEq z d) := by
    unfold inF
    rw [e.1, e2, show RV.toP h (.v d) = some p from e1]
    exact congrArg some (any_eqv a e1 b e2)
  show inAny h (.v d) s = _
  unfold inAny
  split
  · cases e.2
  · rename_i d2 n q
    cases q
    have e3 : listAt h n = some ds := e.2
    unfold listAt at e3
    split
    · rename_i kvs q2
      rw [q2] at e3; cases e3
    · rename_i kvs q2
      rw [q2] at e3; cases e3
    · exact k
  · exact k
theorem c_notinL {h : Hm} {s : RV} {d : D} {ds : List D} (a : dt 62 d = true) (e : IsL h s ds) (b : ∀ x ∈ ds, dt 61 x = true) : copB .notin (.v d) s h = some (!ds.any fun z => dEq z d) := by
  show (copB .inn (.v d) s h).map (!·) = _
  rw [c_inL a e b]; rfl
theorem c_notint {d : D} {ds : List D} {h : Hm} (a : dt 62 d = true) (b : dt 62 (.tup ds) = true) : copB .notin (.v d) (.v (.tup ds)) h = some (!ds.any fun z => dEq z d) := by
  show (copB .inn (.v d) (.v (.tup ds)) h).map (!·) = _
  rw [c_int a b]; rfl
/-! ### texts by length, then by letters -/
def kl (x y : Tx) : Bool := decide (x.length < y.length) || (decide (x.length = y.length) && ltT x y)
theorem eqD_int {h : Hm} {i j : Int} : eqD h 61 (.int i) (.int j) = some (i == j) := by
  show some (PyData.eqv (.int i) (.int j)) = _
  rw [eqv_int]
  congr 1
theorem eqD_str {h : Hm} {x y : Tx} (a : isAscii x = true) (b : isAscii y = true) : eqD h 61 (.str x) (.str y) = some (decide (x = y)) := by
  have e1 : toP h 61 (.str x) = some (.str ⟨x.toArray⟩) := by
    show (if isAscii x then some (PyData.str ⟨x.toArray⟩) else none) = _
    rw [if_pos a]
  have e2 : toP h 61 (.str y) = some (.str ⟨y.toArray⟩) := by
    show (if isAscii y then some (PyData.str ⟨y.toArray⟩) else none) = _
    rw [if_pos b]
  unfold eqD
  rw [e1, e2]
  dsimp only
  rw [PyData.eqv]
  congr 1
  exact st_eq x y
/-- (len(x), x) >= (len(y), y) -/
theorem c_geK {h : Hm} {x y : Tx} (a : isAscii x = true) (b : isAscii y = true) : copB .ge (.v (.tup [.int (x.length : Nat), .str x])) (.v (.tup [.int (y.length : Nat), .str y])) h = some (!kl x y) := by
  show geD h 62 (.tup [.int (x.length : Nat), .str x]) (.tup [.int (y.length : Nat), .str y]) = _
  have e1 := eqD_int (h := h) (i := (x.length : Nat)) (j := (y.length : Nat))
  have e2 := eqD_str (h := h) a b
  show (if eqAll (eqD h 61) [.int (x.length : Nat), .str x] [.int (y.length : Nat), .str y] then geL (geD h 61) (eqD h 61) [.int (x.length : Nat), .str x] [.int (y.length : Nat), .str y] else none) = _
  have ea : eqAll (eqD h 61) [.int (x.length : Nat), .str x] [.int (y.length : Nat), .str y] = true := by
    show ((eqD h 61 (.int (x.length : Nat)) (.int (y.length : Nat))).isSome && ((eqD h 61 (.str x) (.str y)).isSome && true)) = true
    rw [e1, e2]; rfl
  · rw [if_pos ea, geL, e1]
    by_cases hl : x.length = y.length
    · rw [show ((x.length : Int) == (y.length : Int)) = true by rw [hl]; simp]
      dsimp only
      rw [geL, e2]
      by_cases hx : x = y
      · rw [decide_eq_true hx]
        dsimp only
        show some true = _
        unfold kl
        subst hx
        rw [ltT_irr]
        simp
      · rw [decide_eq_false hx]
        dsimp only
        show some (!ltT x y) = _
        unfold kl
        simp [hl]
    · rw [show ((x.length : Int) == (y.length : Int)) = false by simp; omega]
      show some (decide ((y.length : Int) ≤ (x.length : Int))) = _
      unfold kl
      simp [hl]
      by_cases hh : x.length < y.length
      · rw [decide_eq_true hh, decide_eq_false (by omega)]; rfl
      · rw [decide_eq_false hh, decide_eq_true (by omega)]; rfl
/-! ### rows of texts, of truths -/
def tOf : Tx := [111, 102]
def tBut : Tx := [98, 117, 116]
def ofBut : D → Bool
  | .str x => decide (x = tOf) || decide (x = tBut)
  | _ => false
def risK (ts : List Tx) : Bool := (List.range (ts.length - 1)).all fun j => kl (ts[j]?.getD []) (ts[j + 1]?.getD [])
theorem risK_iff {ts : List Tx} : risK ts = true ↔ ∀ j, j + 1 < ts.length → kl (ts[j]?.getD []) (ts[j + 1]?.getD []) = true := by
  unfold risK
  rw [List.all_eq_true]
  constructor
  · intro h j l
    exact h j (List.mem_range.mpr (by omega))
  · intro h j m
    exact h j (by have := List.mem_range.mp m; omega)
def isTs : D → Bool
  | .tup [w, .tup ys] => ofBut w && (ys.all isTx && risK (ys.map txOf))
  | _ => false
def bools4 : List D := [.tup [], .tup [.bl false], .tup [.bl true], .tup [.bl false, .bl true]]
def isTr : D → Bool
  | .tup bs => bs.all isBo && bools4.any fun z => dEq z (.tup bs)
  | _ => false
theorem isTx_str {d : D} (e : isTx d = true) : ∃ x, d = .str x ∧ isAz x = true := by
  cases d with
  | str x => exact ⟨x, rfl, e⟩
  | _ => cases e
theorem isBo_bl {d : D} (e : isBo d = true) : ∃ b, d = .bl b := by
  cases d with
  | bl x => exact ⟨x, rfl⟩
  | _ => cases e
theorem txs_of : ∀ {ys : List D}, (∀ y ∈ ys, isTx y = true) → ys = (ys.map txOf).map D.str
  | [], _ => rfl
  | y :: ys, h => by
    obtain ⟨x, rfl, _⟩ := isTx_str (h y List.mem_cons_self)
    rw [List.map_cons, List.map_cons, ← txs_of fun z m => h z (List.mem_cons_of_mem _ m)]
    rfl
theorem tm_at {h : Hm} {xs : List D} (t : Tm h (.tup xs) = true) : ∀ x ∈ xs, Tm h x = true := by rw [Tm] at t; exact tms_mem t
theorem two_of {α : Type} {xs : List α} (h : xs.length = 2) : ∃ a b, xs = [a, b] := by
  match xs, h with
  | [a, b], _ => exact ⟨a, b, rfl⟩
theorem atI_pre {α : Type} {xs : List α} {i : Nat} (h : i < xs.length) : atI xs ((1 : Int) + i - 1) = some xs[i] := by
  rw [show (1 : Int) + i - 1 = (i : Int) by omega, atI_nat, List.getElem?_eq_getElem h]
theorem atI_suc {α : Type} {xs : List α} {i : Nat} (h : i + 1 < xs.length) : atI xs ((1 : Int) + i) = some xs[i + 1] := by
  rw [show (1 : Int) + i = ((i + 1 : Nat) : Int) by omega, atI_nat, List.getElem?_eq_getElem h]
theorem cut_two {α : Type} {xs : List α} {i : Nat} (h : i + 1 < xs.length) : cut xs (some ((1 : Int) + i - 1)) (some ((1 : Int) + i + 1)) = [xs[i], xs[i + 1]] := by
  unfold cut
  have e1 : sIx xs.length 0 (some ((1 : Int) + i - 1)) = i := by
    unfold sIx
    dsimp only
    rw [if_neg (by omega)]
    omega
  have e2 : sIx xs.length xs.length (some ((1 : Int) + i + 1)) = i + 2 := by
    unfold sIx
    dsimp only
    rw [if_neg (by omega)]
    omega
  rw [e1, e2, show i + 2 - i = 2 by omega, List.drop_eq_getElem_cons (by omega), List.drop_eq_getElem_cons h]
  rfl
/-! ### a growing list of things -/
def OD (n : Nat) (h : Hm) (c : Nat) (h' : Hm) (m : Nat) : Prop := Gr n h h' ∧ ∃ L, MP.hAt h' m = some (.lst L) ∧ L.length = c ∧ ∀ d ∈ L, Tm h' d = true ∧ Tg 20 d = true
theorem OD.more {n : Nat} {h : Hm} {c m : Nat} {h' t : Hm} {L news : List D} {m' c' : Nat} (hc : c' = c + news.length) (g : Gr n h h') (el : MP.hAt h' m = some (.lst L)) (ll : L.length = c) (ok : ∀ d ∈ L, Tm h' d = true ∧ Tg 20 d = true)
    (e : MP.hAt (h' ++ t) m' = some (.lst (L ++ news))) (nw : ∀ d ∈ news, Tm (h' ++ t) d = true ∧ Tg 20 d = true) : OD n h c' (h' ++ t) m' := by
  refine ⟨g.app, L ++ news, e, by rw [List.length_append, ll, hc], fun d m => ?_⟩
  rcases List.mem_append.mp m with m | m
  · exact ⟨Tm.mono (over_keeps Over.app) _ (ok d m).1, (ok d m).2⟩
  · exact nw d m
theorem OD.step {n : Nat} {h : Hm} {c m : Nat} {h' t : Hm} {L news : List D} {m' : Nat} {P : Nat → Hm → Prop} (c' : Nat) (k : ∀ m hh, OD n h c' hh m → P m hh) (g : Gr n h h') (el : MP.hAt h' m = some (.lst L)) (ll : L.length = c) (ok : ∀ d ∈ L, Tm h' d = true ∧ Tg 20 d = true)
    (e : MP.hAt (h' ++ t) m' = some (.lst (L ++ news))) (hc : c' = c + news.length) (nw : ∀ d ∈ news, Tm (h' ++ t) d = true ∧ Tg 20 d = true) : P m' (h' ++ t) := k _ _ (OD.more hc g el ll ok e nw)
theorem OD.start {n : Nat} {h : Hm} {h' t : Hm} {news : List D} {m' : Nat} {P : Nat → Hm → Prop} (c' : Nat) (k : ∀ m hh, OD n h c' hh m → P m hh) (g : Gr n h h')
    (e : MP.hAt (h' ++ t) m' = some (.lst news)) (hc : news.length = c') (nw : ∀ d ∈ news, Tm (h' ++ t) d = true ∧ Tg 20 d = true) : P m' (h' ++ t) := k _ _ ⟨g.app, news, e, hc, nw⟩
theorem tgt {n : Nat} {xs : List D} : Tg (n + 1) (.tup xs) = (decide (xs.length ≤ 100) && xs.all (Tg n)) := rfl
theorem tgs {n : Nat} {x : Tx} : Tg (n + 1) (.str x) = (isAscii x && decide (x.length ≤ 1000)) := rfl
theorem tgn {n : Nat} : Tg (n + 1) .non = true := rfl
theorem tgb {n : Nat} {b : Bool} : Tg (n + 1) (.bl b) = true := rfl
theorem tgi {n : Nat} {b : Int} : Tg (n + 1) (.int b) = true := rfl
theorem tgr {n : Nat} {b : Nat} : Tg (n + 1) (.ref b) = true := rfl
theorem cls_strs {m : Nat} : ∀ ts : List Tx, D.cls m (ts.map D.str) = true
  | [] => rfl
  | x :: ts => by rw [List.map_cons, D.cls, cls_strs ts]; rfl
theorem tms_strs {h : Hm} : ∀ ts : List Tx, Tms h (ts.map D.str) = true
  | [] => rfl
  | x :: ts => by rw [List.map_cons, Tms, tms_strs ts]; rfl
theorem all_strs {n : Nat} {ts : List Tx} (g : ∀ x ∈ ts, isAscii x = true ∧ x.length ≤ 1000) : (ts.map D.str).all (Tg (n + 1)) = true := by
  rw [List.all_eq_true]
  intro d m
  obtain ⟨x, mx, rfl⟩ := List.mem_map.mp m
  rw [tgs, (g x mx).1, decide_eq_true (g x mx).2]; rfl
/-- sorted((..)) of texts -/
theorem b_sortTS {ts : List Tx} {h : Hm} {Q : RV → Hm → Prop} (l : ts.length < 64) (q : Q (.l ((srtB leT ts).map .str)) h) : Sat (bltF .sorted [.v (.tup (ts.map D.str))] h) Q := by
  show Sat (match itemsK (.v (.tup (ts.map D.str))) h with | some xs => sortedF xs h | none => .bad) Q
  have e : itemsK (.v (.tup (ts.map D.str))) h = some (ts.map D.str) := rfl
  rw [e]
  exact b_sortS (h := h) l q
/-- xs.append(d) -/
theorem OD.push {n : Nat} {h : Hm} {c m : Nat} {h' : Hm} {L : List D} {d : D} (hm : h.length ≤ m) (ne : m ≠ n) (g : Gr n h h') (el : MP.hAt h' m = some (.lst L)) (ll : L.length = c) (ok : ∀ d ∈ L, Tm h' d = true ∧ Tg 20 d = true)
    (t : Tm h' d = true) (gd : Tg 20 d = true) : OD n h (c + 1) (h'.set m (.lst (L ++ [d]))) m ∧ Keeps h' (h'.set m (.lst (L ++ [d]))) := by
  have kp : Keeps h' (h'.set m (.lst (L ++ [d]))) := fun k e => by
    by_cases z : k = m
    · subst z
      rw [Tm, hAt_set (hAt_lt el)]
    · rw [Tm] at e ⊢
      rw [hAt_ne (Ne.symm z)]; exact e
  refine ⟨⟨g.own hm ne, _, hAt_set (hAt_lt el), by rw [List.length_append, ll]; rfl, fun x mx => ?_⟩, kp⟩
  rcases List.mem_append.mp mx with z | z
  · exact ⟨Tm.mono kp _ (ok x z).1, (ok x z).2⟩
  · rw [List.mem_singleton.mp z]
    exact ⟨Tm.mono kp _ t, gd⟩
end MP

/-! MS: sorted by keys. -/
namespace MP
open PySem
section
variable {G : Nat → D} {cf : Nat → List D → Hm → Res D} {σ : Env} {h : Hm}
@[simp] theorem w_srtK {a : ME} {f : Nat} {Q : RV → Hm → Prop} : Sat (evE G cf (.srt a f) σ h) Q ↔ Sat (evE G cf a σ h) fun x h1 => Sat (srtF (cf (f + KOFF)) x h1) Q := by
  rw [evE, sat_bind]
/-- key functions, at their own depth -/
theorem key_call {P : Pg} {k i : Nat} (e : P.fns[i + KOFF]? = none) : callF P (k + 1) (i + KOFF) = callG tl0 P 3 i := by
  funext ds hh
  show callG (tl P) P (k + 1) (i + KOFF) ds hh = _
  conv => lhs; unfold callG
  rw [e]
  show callG tl0 P 3 (i + KOFF - KOFF) ds hh = _
  rw [Nat.add_sub_cancel]
theorem mapO_map {α β : Type} {f : α → Option β} {g : α → β} : ∀ {xs : List α}, (∀ x ∈ xs, f x = some (g x)) → mapO f xs = some (xs.map g)
  | [], _ => rfl
  | x :: xs, e => by
    rw [mapO, e x List.mem_cons_self, mapO_map fun y m => e y (List.mem_cons_of_mem _ m)]; rfl
theorem sat_srt {g : List D → Hm → Res D} {x : RV} {ds : List D} {kf : D → D} {pd : D → PyData} {Q : RV → Hm → Prop} (e : itemsK x h = some ds) (l : ds.length ≤ SL) (hk : ∀ d ∈ ds, g [d] h = .ok (kf d) h) (hp : ∀ d ∈ ds, toP h 62 (kf d) = some (pd d))
    (hal : PySem.W.AllAlike (ds.map pd)) (hs : PySem.W.Sortable (ds.map pd)) (q : Q (.l (byKey ds (ds.map pd))) h) : Sat (srtF g x h) Q := by
  unfold srtF
  rw [e]
  dsimp only
  rw [mapO_map (g := kf) fun d m => by unfold keyOf; rw [hk d m]; exact if_pos rfl]
  dsimp only
  have e2 : mapO (toP h 62) (ds.map kf) = some (ds.map pd) := by
    clear q hs hal e l
    induction ds with
    | nil => rfl
    | cons d ds ih =>
      rw [List.map_cons, mapO, hp d List.mem_cons_self, ih (fun d m => hk d (List.mem_cons_of_mem _ m)) fun d m => hp d (List.mem_cons_of_mem _ m)]; rfl
  rw [e2]
  dsimp only
  rw [if_pos ⟨hal, hs, l⟩]
  exact q
end
/-- what byKey gives: the same items, in the order of their keys -/
theorem byKey_perm {ds : List D} {pd : D → PyData} : (byKey ds (ds.map pd)).Perm ds := by
  unfold byKey
  have e : (ds.zip (ds.map pd)).map (·.1) = ds := by
    induction ds with
    | nil => rfl
    | cons d ds ih => rw [List.map_cons, List.zip_cons_cons, List.map_cons, ih]
  have := (List.mergeSort_perm (ds.zip (ds.map pd)) leP).map (·.1)
  rwa [e] at this
theorem zip_at {ds : List D} {pd : D → PyData} {p : D × PyData} (m : p ∈ ds.zip (ds.map pd)) : p.2 = pd p.1 := by
  induction ds with
  | nil => simp at m
  | cons d ds ih =>
    rw [List.map_cons, List.zip_cons_cons] at m
    rcases List.mem_cons.mp m with z | z
    · rw [z]
    · exact ih z
theorem byKey_pw {ds : List D} {pd : D → PyData} : (byKey ds (ds.map pd)).Pairwise fun a b => PyProof.Rows.lexLt PyProof.Rows.itemOrd (PySem.W.keyToks (pd b)) (PySem.W.keyToks (pd a)) = false := by
  unfold byKey
  have T := PySem.W.sortLe_total (PyProof.Rows.listOrd PyProof.Rows.itemOrd) false fun b : D × PyData => PySem.W.keyToks b.2
  have pw := List.pairwise_mergeSort (le := leP) (fun a b c h1 h2 => T.trans a b c h1 h2) (fun a b => by
    rcases T.total a b with z | z
    · rw [show leP a b = true from z]; rfl
    · rw [show leP b a = true from z, Bool.or_true]) (ds.zip (ds.map pd))
  rw [List.pairwise_map]
  refine List.Pairwise.imp_of_mem (fun {a b} ma mb q => ?_) pw
  have ma := zip_at (List.mem_mergeSort.mp ma)
  have mb := zip_at (List.mem_mergeSort.mp mb)
  have q : (!PyProof.Rows.lexLt PyProof.Rows.itemOrd (PySem.W.keyToks b.2) (PySem.W.keyToks a.2)) = true := q
  rw [ma, mb] at q
  simpa using q
/-! ### texts by length, then by letters -/
abbrev pdK (x : Tx) : PyData := .tuple [.int (x.length : Nat), .str ⟨x.toArray⟩]
theorem toks_pdK (x : Tx) : PySem.W.keyToks (pdK x) = [.inl 1, .inl (x.length : Nat), .inl 1, .inr x, .inl 0] := by
  simp [PySem.W.keyToks, PySem.W.keyToksAll]
theorem lex_pdK (x y : Tx) : PyProof.Rows.lexLt PyProof.Rows.itemOrd (PySem.W.keyToks (pdK x)) (PySem.W.keyToks (pdK y)) = kl x y := by
  rw [toks_pdK, toks_pdK]
  unfold kl
  have e1 : ∀ i : Int, PyProof.Rows.itemOrd.blt (.inl i) (.inl i) = false := fun i => PyProof.Rows.itemOrd.irrefl _
  have e2 : PyProof.Rows.itemOrd.blt (.inl (x.length : Nat)) (.inl (y.length : Nat)) = decide (x.length < y.length) := by
    show decide ((x.length : Int) < (y.length : Int)) = _
    rw [decide_eq_decide]; omega
  have e3 : PyProof.Rows.itemOrd.blt (.inl (y.length : Nat)) (.inl (x.length : Nat)) = decide (y.length < x.length) := by
    show decide ((y.length : Int) < (x.length : Int)) = _
    rw [decide_eq_decide]; omega
  have e4 : ∀ a b : Tx, PyProof.Rows.itemOrd.blt (.inr a) (.inr b) = ltT a b := fun a b => by
    rw [ltT_lt]; rfl
  have e5 : PyProof.Rows.lexLt PyProof.Rows.itemOrd [.inl 1, .inl (x.length : Nat), .inl 1, .inr x, .inl 0] [.inl 1, .inl (y.length : Nat), .inl 1, .inr y, .inl 0] =
    (PyProof.Rows.itemOrd.blt (.inl 1) (.inl 1) || (!PyProof.Rows.itemOrd.blt (.inl 1) (.inl 1) && (PyProof.Rows.itemOrd.blt (.inl (x.length : Nat)) (.inl (y.length : Nat)) || (!PyProof.Rows.itemOrd.blt (.inl (y.length : Nat)) (.inl (x.length : Nat)) &&
      (PyProof.Rows.itemOrd.blt (.inl 1) (.inl 1) || (!PyProof.Rows.itemOrd.blt (.inl 1) (.inl 1) && (PyProof.Rows.itemOrd.blt (.inr x) (.inr y) || (!PyProof.Rows.itemOrd.blt (.inr y) (.inr x) && (PyProof.Rows.itemOrd.blt (.inl 0) (.inl 0) || (!PyProof.Rows.itemOrd.blt (.inl 0) (.inl 0) && false)))))))))) := rfl
  rw [e5, e1, e1, e2, e3, e4, e4]
  simp only [Bool.false_or, Bool.not_false, Bool.true_and, Bool.and_false, Bool.or_false]
  by_cases h1 : x.length < y.length
  · rw [decide_eq_true h1]; rfl
  · rw [decide_eq_false h1, Bool.false_or, Bool.false_or]
    by_cases h2 : x.length = y.length
    · rw [decide_eq_true h2, decide_eq_false (by omega)]; rfl
    · rw [decide_eq_false h2, decide_eq_true (by omega)]; rfl
theorem kl_irr (x : Tx) : kl x x = false := by
  unfold kl
  rw [ltT_irr, decide_eq_false (Nat.lt_irrefl _), Bool.and_false]; rfl
theorem kl_tri {x y : Tx} (h1 : kl x y = false) (h2 : kl y x = false) : x = y := by
  unfold kl at h1 h2
  simp only [Bool.or_eq_false_iff, decide_eq_false_iff_not] at h1 h2
  have e : x.length = y.length := by omega
  rw [decide_eq_true e, Bool.true_and] at h1
  rw [decide_eq_true e.symm, Bool.true_and] at h2
  exact ltT_tri x y h1.2 h2.2
theorem kl_asym {x y : Tx} (h : kl x y = true) : kl y x = false := by
  unfold kl at h ⊢
  simp only [Bool.or_eq_true, decide_eq_true_eq, Bool.and_eq_true] at h
  rcases h with h | ⟨h1, h2⟩
  · rw [decide_eq_false (by omega), decide_eq_false (by omega)]; rfl
  · rw [decide_eq_false (by omega), decide_eq_true h1.symm, ltT_asym x y h2]; rfl
theorem kl_trans {x y z : Tx} (h1 : kl x y = true) (h2 : kl y z = true) : kl x z = true := by
  unfold kl at h1 h2 ⊢
  simp only [Bool.or_eq_true, decide_eq_true_eq, Bool.and_eq_true] at h1 h2 ⊢
  rcases h1 with h1 | ⟨h1, g1⟩
  · rcases h2 with h2 | ⟨h2, _⟩ <;> exact .inl (by omega)
  · rcases h2 with h2 | ⟨h2, g2⟩
    · exact .inl (by omega)
    · exact .inr ⟨by omega, ltT_trans x y z g1 g2⟩
/-- rising, each once -/
abbrev Ris (ts : List Tx) : Prop := ts.Pairwise fun x y => kl x y = true
theorem ris_ext : ∀ {xs ys : List Tx}, Ris xs → Ris ys → (∀ z, z ∈ xs ↔ z ∈ ys) → xs = ys
  | [], [], _, _, _ => rfl
  | [], y :: ys, _, _, h => by have := (h y).mpr List.mem_cons_self; cases this
  | x :: xs, [], _, _, h => by have := (h x).mp List.mem_cons_self; cases this
  | x :: xs, y :: ys, hx, hy, h => by
    obtain ⟨hx1, hx2⟩ := List.pairwise_cons.mp hx
    obtain ⟨hy1, hy2⟩ := List.pairwise_cons.mp hy
    have exy : x = y := by
      rcases List.mem_cons.mp ((h x).mp List.mem_cons_self) with z | z
      · exact z
      · rcases List.mem_cons.mp ((h y).mpr List.mem_cons_self) with w | w
        · exact w.symm
        · have := hy1 x z
          have := kl_asym this
          rw [hx1 y w] at this; cases this
    subst exy
    have nx : ∀ {z : Tx}, z ∈ xs → z ≠ x := fun {z} m e => by
      have := hx1 z m
      rw [e, kl_irr] at this; cases this
    have ny : ∀ {z : Tx}, z ∈ ys → z ≠ x := fun {z} m e => by
      have := hy1 z m
      rw [e, kl_irr] at this; cases this
    rw [ris_ext hx2 hy2 fun z => ⟨fun m => ?_, fun m => ?_⟩]
    · rcases List.mem_cons.mp ((h z).mp (List.mem_cons_of_mem _ m)) with w | w
      · exact absurd w (nx m)
      · exact w
    · rcases List.mem_cons.mp ((h z).mpr (List.mem_cons_of_mem _ m)) with w | w
      · exact absurd w (ny m)
      · exact w
theorem ris_nodup {ts : List Tx} (h : Ris ts) : ts.Nodup := by
  refine List.Pairwise.imp (fun {a b} q e => ?_) h
  subst e
  rw [kl_irr] at q; cases q
theorem ris_risK {ts : List Tx} (h : Ris ts) : risK ts = true := by
  rw [risK_iff]
  intro j l
  rw [List.getElem?_eq_getElem (by omega), List.getElem?_eq_getElem l]
  exact List.pairwise_iff_getElem.mp h j (j + 1) (by omega) l (by omega)
abbrev pdT (d : D) : PyData := pdK (txOf d)
abbrev kfT (d : D) : D := .tup [.int ((txOf d).length : Nat), d]
/-- sorted(texts, key=text_key) -/
theorem byKey_texts {ts : List Tx} (nd : ts.Nodup) : ∃ us : List Tx, byKey (ts.map D.str) ((ts.map D.str).map pdT) = us.map D.str ∧ us.Perm ts ∧ Ris us := by
  have p := byKey_perm (ds := ts.map D.str) (pd := pdT)
  have w := byKey_pw (ds := ts.map D.str) (pd := pdT)
  generalize byKey (ts.map D.str) ((ts.map D.str).map pdT) = L at *
  have e : L = (L.map txOf).map D.str := by
    rw [List.map_map]
    refine (List.map_id'' (fun _ => rfl) _).symm.trans (List.map_congr_left fun d m => ?_)
    obtain ⟨x, _, rfl⟩ := List.mem_map.mp (p.mem_iff.mp m)
    rfl
  have pu : (L.map txOf).Perm ts := by
    have := p.map txOf
    rw [List.map_map] at this
    have e2 : ts.map (txOf ∘ D.str) = ts := List.map_id'' (fun _ => rfl) ts
    rwa [e2] at this
  refine ⟨L.map txOf, e, pu, ?_⟩
  have nu : (L.map txOf).Nodup := pu.nodup_iff.mpr nd
  rw [Ris, List.pairwise_map]
  have nu2 := List.pairwise_map.mp nu
  refine (List.Pairwise.and w nu2).imp fun {a b} q => ?_
  have q1 : kl (txOf b) (txOf a) = false := by rw [← lex_pdK]; exact q.1
  cases e3 : kl (txOf a) (txOf b) with
  | true => rfl
  | false => exact absurd (kl_tri e3 q1) q.2
theorem toP_kfT {x : Tx} {h : Hm} (a : isAscii x = true) : toP h 62 (kfT (.str x)) = some (pdT (.str x)) := by
  show (mapO (toP h 61) [.int (x.length : Nat), .str x]).map PyData.tuple = _
  have e1 : toP h 61 (.str x) = some (.str ⟨x.toArray⟩) := by
    show (if isAscii x then some (PyData.str ⟨x.toArray⟩) else none) = _
    rw [if_pos a]
  rw [mapO, mapO, e1]
  rfl
theorem alike_pdT {ds : List D} : PySem.W.AllAlike (ds.map pdT) := fun d m d' m' => by
  obtain ⟨x, _, rfl⟩ := List.mem_map.mp m
  obtain ⟨y, _, rfl⟩ := List.mem_map.mp m'
  simp [PySem.W.alike, PySem.W.alikeAll]
theorem sortable_pdT {ds : List D} : PySem.W.Sortable (ds.map pdT) := .inl fun d m => by
  obtain ⟨x, _, rfl⟩ := List.mem_map.mp m
  exact ⟨_, _, rfl⟩
/-! ### dict([(text, True) ..]) -/
theorem mergeD_texts : ∀ {kvs acc : List (D × D)} {ts us : List Tx}, kvs.map (·.1) = ts.map D.str → acc.map (·.1) = us.map D.str → us.Nodup → ∃ vs : List Tx, (mergeD acc kvs).map (·.1) = vs.map D.str ∧ vs.Nodup ∧ (∀ z, z ∈ vs ↔ z ∈ us ∨ z ∈ ts) ∧ vs.length ≤ us.length + ts.length
  | [], acc, ts, us, e, ea, nd => by
    have : ts = [] := by cases ts with
      | nil => rfl
      | cons _ _ => cases e
    subst this
    exact ⟨us, ea, nd, fun z => by simp, by simp⟩
  | (d, v) :: kvs, acc, ts, us, e, ea, nd => by
    cases ts with
    | nil => cases e
    | cons x ts =>
      rw [List.map_cons, List.map_cons] at e
      injection e with e1 e2
      subst e1
      have put : ∀ {acc : List (D × D)} {us : List Tx}, acc.map (·.1) = us.map D.str → us.Nodup → ∃ ws : List Tx, (kvPut acc (.str x) v (.inr x)).map (·.1) = ws.map D.str ∧ ws.Nodup ∧ (∀ z, z ∈ ws ↔ z ∈ us ∨ z = x) ∧ ws.length ≤ us.length + 1 := by
        intro acc
        induction acc with
        | nil =>
          intro us ea _
          have : us = [] := by cases us with
            | nil => rfl
            | cons _ _ => cases ea
          subst this
          exact ⟨[x], rfl, by simp, fun z => by simp, by simp⟩
        | cons p acc ih =>
          intro us ea nd
          obtain ⟨a, w⟩ := p
          cases us with
          | nil => cases ea
          | cons y us =>
            rw [List.map_cons, List.map_cons] at ea
            injection ea with ea1 ea2
            have ea1 : a = .str y := ea1
            subst ea1
            obtain ⟨n1, n2⟩ := List.nodup_cons.mp nd
            unfold kvPut
            by_cases hxy : y = x
            · subst hxy
              rw [if_pos (show key? (D.str y) = some (Sum.inr y) from rfl)]
              refine ⟨y :: us, by rw [List.map_cons, ea2]; rfl, nd, fun z => ?_, by simp⟩
              constructor
              · exact .inl
              · rintro (q | rfl)
                · exact q
                · exact List.mem_cons_self
            · rw [if_neg (fun z => hxy (by
                have z : some (Sum.inr y : KX) = some (.inr x) := z
                injection z with z
                injection z))]
              obtain ⟨ws, h1, h2, h3, h4⟩ := ih ea2 n2
              refine ⟨y :: ws, by rw [List.map_cons, h1]; rfl, List.nodup_cons.mpr ⟨fun m => ?_, h2⟩, fun z => ?_, by simp; omega⟩
              · rcases (h3 y).mp m with q | q
                · exact n1 q
                · exact hxy q
              · rw [List.mem_cons, List.mem_cons, h3]
                exact or_assoc.symm
      obtain ⟨ws, h1, h2, h3, h4⟩ := put ea nd
      obtain ⟨vs, g1, g2, g3, g4⟩ := mergeD_texts (kvs := kvs) (acc := kvPut acc (.str x) v (.inr x)) e2 h1 h2
      refine ⟨vs, ?_, g2, fun z => ?_, by simp; omega⟩
      · rw [mergeD, show key1 ((.str x, v) : D × D).1 = some (.inr x) from rfl]
        exact g1
      · rw [g3, h3, List.mem_cons, or_assoc]
/-- keys of a dict made by stores -/
def Dk (kvs : List (D × D)) (ts : List Tx) : Prop := kvs.map (·.1) = ts.map D.str ∧ ts.Nodup
theorem Dk.put {kvs : List (D × D)} {ts : List Tx} {x : Tx} {v : D} (h : Dk kvs ts) : ∃ us, Dk (kvPut kvs (.str x) v (.inr x)) us ∧ (∀ z, z ∈ us ↔ z ∈ ts ∨ z = x) ∧ us.length ≤ ts.length + 1 := by
  obtain ⟨vs, g1, g2, g3, g4⟩ := mergeD_texts (kvs := [(.str x, v)]) (ts := [x]) rfl h.1 h.2
  have e : mergeD kvs [(.str x, v)] = kvPut kvs (.str x) v (.inr x) := by
    rw [mergeD, show key1 ((.str x, v) : D × D).1 = some (.inr x) from rfl]; rfl
  rw [e] at g1
  exact ⟨vs, ⟨g1, g2⟩, fun z => by rw [g3, List.mem_singleton], g4⟩
/-- texts of the sizes one behind another, each size's sorted: rising -/
theorem srt_ris {ts : List Tx} {n : Nat} (nd : ts.Nodup) (l : ∀ x ∈ ts, x.length = n) : Ris (srtB leT ts) := by
  have p := srtB_perm (le := leT) ts
  have w := srtB_pw leT_tot leT_tr ts
  have nu : (srtB leT ts).Nodup := p.nodup_iff.mpr nd
  refine List.Pairwise.imp_of_mem (fun {a b} ma mb q => ?_) (List.Pairwise.and w nu)
  have la := l a (p.mem_iff.mp ma)
  have lb := l b (p.mem_iff.mp mb)
  unfold kl
  rw [decide_eq_true (show a.length = b.length by omega), Bool.true_and]
  have q1 : ltT b a = false := by
    have := q.1
    unfold leT at this
    simpa using this
  cases e : ltT a b with
  | true => rw [Bool.or_true]
  | false => exact absurd (ltT_tri a b e q1) q.2
theorem row_step {L ts : List Tx} {i : Nat} (h : Ris L) (hl : ∀ x ∈ L, x.length < i) (nd : ts.Nodup) : Ris (L ++ srtB leT (ts.filter fun x => decide (x.length = i))) ∧ ∀ x ∈ L ++ srtB leT (ts.filter fun x => decide (x.length = i)), x.length < i + 1 := by
  have lf : ∀ x ∈ srtB leT (ts.filter fun x => decide (x.length = i)), x.length = i := fun x m => by
    have := (srtB_perm (le := leT) (ts.filter fun x => decide (x.length = i))).mem_iff.mp m
    simpa using (List.mem_filter.mp this).2
  refine ⟨?_, fun x m => ?_⟩
  · rw [Ris, List.pairwise_append]
    refine ⟨h, srt_ris (nd.sublist List.filter_sublist) fun x m => by simpa using (List.mem_filter.mp m).2, fun a ma b mb => ?_⟩
    unfold kl
    rw [decide_eq_true (show a.length < b.length by have := hl a ma; have := lf b mb; omega)]; rfl
  · rcases List.mem_append.mp m with m | m
    · have := hl x m; omega
    · have := lf x m; omega
/-- a row of texts: of (true) or but -/
abbrev encR (b : Bool) (ts : List Tx) : D := .tup [.str (if b then tOf else tBut), .tup (ts.map D.str)]
theorem isTs_encR {b : Bool} {ts : List Tx} (h : Ris ts) (a : ∀ x ∈ ts, isAz x = true) : isTs (encR b ts) = true := by
  have e1 : ofBut (.str (if b then tOf else tBut)) = true := by cases b <;> rfl
  have e2 : (ts.map D.str).all isTx = true := by
    rw [List.all_eq_true]
    intro d m
    obtain ⟨x, mx, rfl⟩ := List.mem_map.mp m
    exact a x mx
  have e3 : (ts.map D.str).map txOf = ts := by
    rw [List.map_map]
    exact List.map_id'' (fun _ => rfl) ts
  show (ofBut _ && ((ts.map D.str).all isTx && risK ((ts.map D.str).map txOf))) = true
  rw [e1, e2, e3, ris_risK h]; rfl
theorem any_str {ts : List Tx} {x : Tx} : ((ts.map D.str).any fun z => dEq z (.str x)) = decide (x ∈ ts) := by
  rw [Bool.eq_iff_iff, List.any_eq_true, decide_eq_true_eq]
  constructor
  · rintro ⟨d, m, e⟩
    obtain ⟨y, my, rfl⟩ := List.mem_map.mp m
    rw [dEq_str, decide_eq_true_eq] at e
    rw [← e]; exact my
  · intro m
    exact ⟨.str x, List.mem_map_of_mem m, by rw [dEq_str]; simp⟩
theorem dt_strs {ts : List Tx} {n : Nat} (a : ∀ x ∈ ts, isAscii x = true) : dt (n + 2) (.tup (ts.map D.str)) = true := by
  show (ts.map D.str).all (dt (n + 1)) = true
  rw [List.all_eq_true]
  intro d m
  obtain ⟨x, mx, rfl⟩ := List.mem_map.mp m
  exact a x mx
theorem c_inS {h : Hm} {x : Tx} {ts : List Tx} (ax : isAscii x = true) (a : ∀ x ∈ ts, isAscii x = true) : copB .inn (.v (.str x)) (.v (.tup (ts.map D.str))) h = some (decide (x ∈ ts)) := by
  rw [c_int (show dt 62 (.str x) = true from ax) (dt_strs a), any_str]
theorem c_notinS {h : Hm} {x : Tx} {ts : List Tx} (ax : isAscii x = true) (a : ∀ x ∈ ts, isAscii x = true) : copB .notin (.v (.str x)) (.v (.tup (ts.map D.str))) h = some (!decide (x ∈ ts)) := by
  rw [c_notint (show dt 62 (.str x) = true from ax) (dt_strs a), any_str]
theorem ris_filter {ts : List Tx} (p : Tx → Bool) (h : Ris ts) : Ris (ts.filter p) := List.Pairwise.sublist List.filter_sublist h
theorem sat_dict {xs : List D} {kvs : List (D × D)} {h : Hm} {Q : RV → Hm → Prop} (e : mapO pair1 xs = some kvs) (q : Q (.v (.ref h.length)) (h ++ [.dic (mergeD [] kvs)])) : Sat (bltF .dict [.l xs] h) Q := by
  show Sat (match mapO pair1 xs with | some kvs => .ok (.v (.ref h.length)) (h ++ [.dic (mergeD [] kvs)]) | none => .bad) Q
  rw [e]
  exact q
theorem items_dic {h : Hm} {n : Nat} {kvs : List (D × D)} (e : MP.hAt h n = some (.dic kvs)) : itemsK (.v (.ref n)) h = some (kvs.map (·.1)) := by
  unfold itemsK
  have e5 : h[n]? = some (.dic kvs) := e
  have e6 : RV.lst? h (.v (.ref n)) = none := by
    show listAt h n = none
    unfold listAt
    rw [e5]
  rw [e6]
  dsimp only
  rw [e5]
end MP

/-! MU: a purse of numbers that is handed about. -/
namespace MP
open PySem
/-- the purse at n -/
def Pu (h : Hm) (n : Nat) : Prop := ∃ L : List Int, hAt h n = some (.lst (L.map .int)) ∧ ∀ x ∈ L, 0 ≤ x ∧ x < 4294967296
theorem Pu.lt {h : Hm} {n : Nat} (i : Pu h n) : n < h.length := let ⟨_, e, _⟩ := i; hAt_lt e
structure Gp (n : Nat) (h h' : Hm) : Prop where
  len : h.length ≤ h'.length
  at_ : ∀ i, i < h.length → i ≠ n → hAt h' i = hAt h i
  hd : Pu h' n
theorem Gp.refl {n : Nat} {h : Hm} (i : Pu h n) : Gp n h h := ⟨Nat.le_refl _, fun _ _ _ => rfl, i⟩
theorem Gp.trans {n : Nat} {h h1 h2 : Hm} (a : Gp n h h1) (b : Gp n h1 h2) : Gp n h h2 :=
  ⟨Nat.le_trans a.len b.len, fun i hi ne => (b.at_ i (Nat.lt_of_lt_of_le hi a.len) ne).trans (a.at_ i hi ne), b.hd⟩
theorem Gp.get {n : Nat} {h h' : Hm} (g : Gp n h h') {i : Nat} {o : O} (e : hAt h i = some o) (ne : i ≠ n) : hAt h' i = some o := (g.at_ i (hAt_lt e) ne).trans e
theorem Gp.app {n : Nat} {h h' : Hm} {t : Hm} (g : Gp n h h') : Gp n h (h' ++ t) := by
  refine ⟨by rw [List.length_append]; have := g.len; omega, fun i hi ne => ?_, ?_⟩
  · rw [hAt_app (Nat.lt_of_lt_of_le hi g.len)]; exact g.at_ i hi ne
  · obtain ⟨L, e, q⟩ := g.hd
    exact ⟨L, by rw [hAt_app (hAt_lt e)]; exact e, q⟩
/-- the purse as another one -/
theorem Gp.hand {n : Nat} {h h' : Hm} {L : List Int} (g : Gp n h h') (q : ∀ x ∈ L, 0 ≤ x ∧ x < 4294967296) : Gp n h (h'.set n (.lst (L.map .int))) := by
  refine ⟨by rw [List.length_set]; exact g.len, fun i hi ne => ?_, ⟨L, hAt_set g.hd.lt, q⟩⟩
  rw [hAt_ne (Ne.symm ne)]; exact g.at_ i hi ne
theorem Gp.own {n m : Nat} {h h' : Hm} {o : O} (g : Gp n h h') (hm : h.length ≤ m) (ne : m ≠ n) : Gp n h (h'.set m o) := by
  refine ⟨by rw [List.length_set]; exact g.len, fun i hi ne2 => ?_, ?_⟩
  · rw [hAt_ne (by omega)]; exact g.at_ i hi ne2
  · obtain ⟨L, e, q⟩ := g.hd
    exact ⟨L, by rw [hAt_ne ne]; exact e, q⟩
theorem cls_ints {m : Nat} : ∀ L : List Int, D.cls m (L.map .int) = true
  | [] => rfl
  | x :: L => by rw [List.map_cons, D.cls, cls_ints L]; rfl
theorem Gp.stable {n : Nat} {h h' : Hm} (g : Gp n h h') : Stable h h' := by
  refine ⟨g.len, fun i hi => ?_⟩
  by_cases e : i = n
  · subst e
    obtain ⟨L, e, q⟩ := g.hd
    exact .inr ⟨_, e, cls_ints L⟩
  · exact .inl (g.at_ i hi e)
theorem Gp.take {n : Nat} {h h' : Hm} (g : Gp n h h') (hn : n < h.length) : Gp n h (h'.take h.length) := by
  have hl : (h'.take h.length).length = h.length := by rw [List.length_take]; have := g.len; omega
  have k : ∀ i, i < h.length → hAt (h'.take h.length) i = hAt h' i := fun i hi => List.getElem?_take_of_lt hi
  refine ⟨by omega, fun i hi ne => (k i hi).trans (g.at_ i hi ne), ?_⟩
  obtain ⟨L, e, q⟩ := g.hd
  exact ⟨L, by rw [k n hn]; exact e, q⟩
theorem sat_callP {t : Nat → List D → Hm → Res D} {P : Pg} {k f n : Nat} {F : Fd} {ds : List D} {h : Hm} {Q : D → Hm → Prop} (hi : Pu h n) (e : P.fns[f]? = some F) (hl : ds.length = F.np)
    (b : Sat (evSs P.G (callG t P k) F.body (startE F.n ds) h) fun o h' => EK o fun d => Gp n h h' ∧ d.cl h.length = true ∧ ∀ h'', Gp n h h'' → h''.length = h.length → Q d h'') : Sat (callG t P (k + 1) f ds h) Q := by
  refine sat_callG e hl (b.mono fun o h' q => ?_)
  have go : ∀ d, (Gp n h h' ∧ d.cl h.length = true ∧ ∀ h'', Gp n h h'' → h''.length = h.length → Q d h'') → Sat (gcR h (.ok d h')) Q := fun d ⟨g, c, q⟩ => by
    rw [gcR_st g.stable]
    unfold gcOk
    rw [if_pos c]
    exact q _ (g.take hi.lt) (by rw [List.length_take]; have := g.len; omega)
  cases o with
  | nx σ => exact go _ q
  | rt d => exact go _ q
  | bk σ => exact q
  | ct σ => exact q
/-- a list of its own comes back -/
theorem gc_gp {n m : Nat} {h h' : Hm} {xs : List D} (hi : Pu h n) (g : Gp n h h') (e : MP.hAt h' m = some (.lst xs)) (hm : h.length ≤ m) (c : D.cls h.length xs = true) {Q : D → Hm → Prop} (q : ∀ h'', Gp n h h'' → MP.hAt h'' h.length = some (.lst xs) → h''.length = h.length + 1 → Q (.ref h.length) h'') : Sat (gcR h (.ok (.ref m) h')) Q := by
  rw [gcR_st g.stable]
  unfold gcOk
  rw [if_neg (by rw [D.cl]; simp; exact hm)]
  unfold MP.hAt at e
  dsimp only
  rw [e]
  dsimp only
  rw [if_pos c]
  have l : (h'.take h.length).length = h.length := by rw [List.length_take]; have := g.len; omega
  refine q _ (g.take hi.lt).app ?_ (by simp [l])
  have := hAt_last (h := h'.take h.length) (o := O.lst xs)
  rwa [l] at this
theorem atI_mod {α : Type} {xs : List α} {v : Int} {R : α → Prop} {n : Nat} (hn : xs.length = n) (hp : 0 < n) (r : ∀ d ∈ xs, R d) : OK (atI xs (v % (n : Int))) R :=
  ok_pick (Int.emod_nonneg _ (by omega)) (by rw [hn]; exact Int.emod_lt_of_pos _ (by omega)) r
theorem sat_compH {α : Type} {step : D → Hm → Res (Option D)} {cs : List (Nat × O)} {h : Hm} {Q : List D → Hm → Prop} (ys : List α) (g f : α → D) (hc : HC cs h)
    (st : ∀ x ∈ ys, ∀ Q : Option D → Hm → Prop, Q (some (f x)) h → Sat (step (g x) h) Q) (fin : Q (ys.map f) h) : Sat (compL step cs (ys.map g) h) Q := by
  refine sat_compX (fun i acc h' => acc = (ys.take i).map f ∧ h' = h) ⟨rfl, rfl⟩ ?_ ?_
  · intro i x acc h' e z
    obtain ⟨rfl, rfl⟩ := z
    rw [List.getElem?_map] at e
    obtain ⟨y, ey, rfl⟩ := Option.map_eq_some_iff.mp e
    refine ⟨hc, st y (List.mem_of_getElem? ey) _ ⟨?_, rfl⟩⟩
    rw [List.take_add_one, ey, List.map_append]
    rfl
  · intro acc h' z
    obtain ⟨rfl, rfl⟩ := z
    rw [List.length_map, List.take_length]
    exact ⟨hc, fin⟩
/-- what is kept, turned -/
theorem sat_compG {α : Type} {step : D → Hm → Res (Option D)} {cs : List (Nat × O)} {h : Hm} {Q : List D → Hm → Prop} (ys : List α) (g f : α → D) (p : α → Bool) (hc : HC cs h)
    (st : ∀ x ∈ ys, ∀ Q : Option D → Hm → Prop, (p x = true → Q (some (f x)) h) → (p x = false → Q none h) → Sat (step (g x) h) Q) (fin : Q ((ys.filter p).map f) h) : Sat (compL step cs (ys.map g) h) Q := by
  refine sat_compX (fun i acc h' => acc = ((ys.take i).filter p).map f ∧ h' = h) ⟨rfl, rfl⟩ ?_ ?_
  · intro i x acc h' e z
    obtain ⟨rfl, rfl⟩ := z
    rw [List.getElem?_map] at e
    obtain ⟨y, ey, rfl⟩ := Option.map_eq_some_iff.mp e
    obtain ⟨l, el⟩ := List.getElem?_eq_some_iff.mp ey
    refine ⟨hc, st y (List.mem_of_getElem? ey) _ (fun t => ⟨?_, rfl⟩) (fun t => ⟨?_, rfl⟩)⟩
    · rw [List.take_succ_eq_append_getElem l, el, List.filter_append, List.map_append, List.filter_cons_of_pos t]
      rfl
    · rw [List.take_succ_eq_append_getElem l, el, List.filter_append, List.map_append, List.filter_cons_of_neg (by rw [t]; exact Bool.false_ne_true)]
      simp
  · intro acc h' z
    obtain ⟨rfl, rfl⟩ := z
    rw [List.length_map, List.take_length]
    exact ⟨hc, fin⟩
@[simp] theorem w_addlr {h : Hm} {Q : RV → Hm → Prop} {n : Nat} {x : List D} : Sat (bopF .add (.l x) (.v (.ref n)) h) Q ↔ HK (MP.hAt h n) (fun y => x.length + y.length ≤ SL ∧ Q (.l (x ++ y)) h) fun _ => False := by
  unfold MP.hAt
  show Sat (match some x, listAt h n with
    | some xs, some ys => if xs.length + ys.length ≤ SL then .ok (.l (xs ++ ys)) h else .bad
    | _, _ => .bad) Q ↔ _
  unfold listAt
  cases h[n]? with
  | none => exact Iff.rfl
  | some o =>
    cases o with
    | lst xs => exact sat_ite
    | _ => exact Iff.rfl
theorem b_sortL {ts : List Tx} {h : Hm} {Q : RV → Hm → Prop} (l : ts.length ≤ 16000000) (q : Q (.l ((srtB leT ts).map .str)) h) : Sat (bltF .sorted [.l (ts.map D.str)] h) Q := by
  show Sat (match itemsK (.l (ts.map D.str)) h with | some xs => sortedF xs h | none => .bad) Q
  have e : itemsK (.l (ts.map D.str)) h = some (ts.map D.str) := rfl
  rw [e]
  show Sat (sortedF (ts.map D.str) h) Q
  unfold sortedF
  rw [if_pos (by rw [List.length_map]; show _ ≤ 16777216; omega)]
  cases ts with
  | nil => exact q
  | cons x ts =>
    have e1 : ints? ((x :: ts).map D.str) = none := by
      show mapO int1? (.str x :: ts.map D.str) = none
      rw [mapO]; rfl
    rw [e1]
    dsimp only
    rw [strs_map]
    exact q
theorem joinT_nil (ts : List Tx) : joinT [] ts = ts.flatten := by
  cases ts with
  | nil => rfl
  | cons x r =>
    have key : ∀ (r : List Tx) (acc : Tx), r.foldl (fun acc p => acc ++ [] ++ p) acc = acc ++ r.flatten := fun r => by
      induction r with
      | nil => intro acc; simp
      | cons y r ih =>
        intro acc
        rw [List.foldl_cons, ih, List.flatten_cons]
        simp
    show r.foldl (fun acc p => acc ++ [] ++ p) x = _
    rw [key, List.flatten_cons]
theorem m_join {ts : List Tx} {h : Hm} {Q : RV → Hm → Prop} (l : (ts.map List.length).sum ≤ 16777216) (q : Q (.v (.str ts.flatten)) h) : Sat (mthF .join (.v (.str [])) [.l (ts.map .str)] h) Q := by
  show Sat (match strs? (ts.map .str) with | some ts => if (ts.map List.length).sum + ts.length * ([] : Tx).length ≤ SL then ok1 (.str (joinT [] ts)) h else .bad | none => .bad) Q
  rw [strs_map]
  dsimp only
  rw [if_pos (by rw [List.length_nil, Nat.mul_zero]; exact l), joinT_nil]
  exact q
theorem ixN_last {n : Nat} : ixN (n + 1) (-1) = some n := by
  unfold ixN
  rw [if_neg (by decide), if_pos (by omega)]
  congr 1
  omega
theorem atI_end {α : Type} {xs : List α} {x : α} : atI (xs ++ [x]) (-1) = some x := by
  unfold atI
  rw [show (xs ++ [x]).length = xs.length + 1 by simp, ixN_last]
  simp
theorem set_last {α : Type} {xs : List α} {x y : α} : (xs ++ [x]).set xs.length y = xs ++ [y] := by
  rw [List.set_append_right _ _ (Nat.le_refl _), Nat.sub_self]; rfl
section
variable {G : Nat → D} {cf : Nat → List D → Hm → Res D} {σ : Env} {h : Hm}
theorem sat_augA {t : Nat} {e : ME} {i : Int} {Q : Out → Hm → Prop} (ex : σ[t]? = some (some (.int i))) (q : Sat (evE G cf e σ h) fun y h1 => ∃ j, y = .v (.int j) ∧ Q (.nx (σ.set t (some (.int (i + j))))) h1) : Sat (evS G cf (.aug t .add e) σ h) Q := by
  rw [evS, ex]
  dsimp only
  rw [sat_bind]
  refine q.mono fun y h1 ⟨j, e, z⟩ => ?_
  subst e
  exact z
theorem sat_augM {t : Nat} {e : ME} {i : Int} {Q : Out → Hm → Prop} (ex : σ[t]? = some (some (.int i))) (q : Sat (evE G cf e σ h) fun y h1 => ∃ j, y = .v (.int j) ∧ mulOk i j = true ∧ Q (.nx (σ.set t (some (.int (i * j))))) h1) : Sat (evS G cf (.aug t .mul e) σ h) Q := by
  rw [evS, ex]
  dsimp only
  rw [sat_bind]
  refine q.mono fun y h1 ⟨j, e, m, z⟩ => ?_
  subst e
  show Sat ((if mulOk i j then ok1 (.int (i * j)) h1 else .bad).bind fun r h2 => .ok (.nx (σ.set t (some (r.box h2).1))) (r.box h2).2) Q
  rw [if_pos m]
  exact z
end
/-! ### the order of data, of lists of texts -/
theorem c_ltV {h : Hm} {x y : D} {k : Bool} (e : ltD h 62 x y = some k) : copB .lt (.v x) (.v y) h = some k := by
  show (match ltD h 62 x y with | some k => some k | none => ltR h (.v x) (.v y)) = _
  rw [e]
def ltTs : List Tx → List Tx → Bool
  | [], [] => false
  | [], _ :: _ => true
  | _ :: _, [] => false
  | x :: xs, y :: ys => if x = y then ltTs xs ys else ltT x y
theorem LT_strs {h : Hm} {n : Nat} : ∀ {xs ys : List Tx}, LT h (n + 1) (xs.map D.str) (ys.map D.str) = some (ltTs xs ys)
  | [], [] => by simp [LT_nil, ltTs]
  | [], y :: ys => rfl
  | x :: xs, [] => rfl
  | x :: xs, y :: ys => by
    rw [List.map_cons, List.map_cons, LT_cons, dEq_str, ltTs]
    by_cases e : x = y
    · simp [e, LT_strs]
    · simp [e, ltD_str]
theorem c_ltR {h : Hm} {a b : Nat} {xs ys : List Tx} (ea : hAt h a = some (.lst (xs.map D.str))) (eb : hAt h b = some (.lst (ys.map D.str))) (ax : ∀ x ∈ xs, isAscii x = true) (ay : ∀ x ∈ ys, isAscii x = true) : copB .lt (.v (.ref a)) (.v (.ref b)) h = some (ltTs xs ys) := by
  show ltR h (.v (.ref a)) (.v (.ref b)) = _
  have e1 : (RV.v (.ref a)).lst? h = some (xs.map D.str) := (isL_r ea).2
  have e2 : (RV.v (.ref b)).lst? h = some (ys.map D.str) := (isL_r eb).2
  have d : ∀ {ts : List Tx}, (∀ x ∈ ts, isAscii x = true) → ∀ d ∈ ts.map D.str, dt 61 d = true := fun t d md => by
    obtain ⟨x, mx, rfl⟩ := List.mem_map.mp md
    exact t x mx
  have s : ∀ ts : List Tx, (ts.map D.str).all isStrD = true := fun ts => by
    rw [List.all_eq_true]
    intro d md
    obtain ⟨x, mx, rfl⟩ := List.mem_map.mp md
    rfl
  obtain ⟨q1, q2⟩ := ltL_dt (h := h) (d ax) (d ay)
  unfold ltR
  rw [e1, e2]
  dsimp only
  rw [s, s, q1, q2]
  exact LT_strs (n := 60)
end MP

namespace LW
open PySem MP
abbrev if_is_number : Nat := 0
abbrev if_is_text : Nat := 1
abbrev if_is_name : Nat := 2
abbrev if_are_rising : Nat := 3
abbrev if_show_value : Nat := 4
abbrev if_run_of : Nat := 5
abbrev if_number_at : Nat := 6
abbrev if_list_at : Nat := 7
abbrev if_record_at : Nat := 8
abbrev if_value_at : Nat := 9
abbrev if_read_value : Nat := 10
abbrev if_law_hand : Nat := 11
abbrev if_law_draw : Nat := 12
abbrev if_law_letters : Nat := 13
abbrev if_law_text : Nat := 14
abbrev if_law_number : Nat := 15
abbrev if_law_names : Nat := 16
abbrev if_law_value : Nat := 17
abbrev if_law_small : Nat := 18
abbrev if_law_wide : Nat := 19
abbrev if_law_chain : Nat := 20
abbrev if_law_drawn : Nat := 21
abbrev if_law_written : Nat := 22
abbrev if_law_alike : Nat := 23
abbrev if_law_right : Nat := 24
abbrev if_law : Nat := 25
abbrev g_LETTERS : Nat := 0
abbrev g_FIGURES : Nat := 1
abbrev g_MOST_FIGURES : Nat := 2
abbrev g_DEEPEST : Nat := 3
def bf_is_number : MSs :=
  (.cons (.ret (.and (.isin (.var 0) [.int]) (.not (.isin (.var 0) [.bool])))) .nil)
def df_is_number : Df := ⟨"is_number", ["thing"], ["thing"], bf_is_number⟩
def bf_is_text : MSs :=
  (.cons (.ite (.not (.isin (.var 0) [.str])) 
    (.cons (.ret (.bl false)) .nil) .nil) 
  (.cons (.for (.nm 1) (.seq (.var 0)) 
    (.cons (.ite (.cmp .notin (.var 1) (.glob g_LETTERS)) 
      (.cons (.ret (.bl false)) .nil) .nil) .nil)) 
  (.cons (.ret (.bl true)) .nil)))
def df_is_text : Df := ⟨"is_text", ["thing"], ["thing", "sign"], bf_is_text⟩
def bf_is_name : MSs :=
  (.cons (.ret (.and (.call if_is_text (.cons (.var 0) .nil)) (.cmp .ne (.var 0) (.str [])))) .nil)
def df_is_name : Df := ⟨"is_name", ["thing"], ["thing"], bf_is_name⟩
def bf_are_rising : MSs :=
  (.cons (.for (.nm 1) (.rng (.cons (.int 1) (.cons (.blt .len (.cons (.var 0) .nil)) .nil))) 
    (.cons (.ite (.cmp .ge (.ix (.var 0) (.bin .sub (.var 1) (.int 1))) (.ix (.var 0) (.var 1))) 
      (.cons (.ret (.bl false)) .nil) .nil) .nil)) 
  (.cons (.ret (.bl true)) .nil))
def df_are_rising : Df := ⟨"are_rising", ["names"], ["names", "k"], bf_are_rising⟩
def bf_show_value : MSs :=
  (.cons (.ite (.isin (.var 0) [.bool]) 
    (.cons (.ret (.meth .lower (.blt .str (.cons (.var 0) .nil)) .nil)) .nil) .nil) 
  (.cons (.ite (.call if_is_number (.cons (.var 0) .nil)) 
    (.cons (.ret (.blt .str (.cons (.var 0) .nil))) .nil) .nil) 
  (.cons (.ite (.isin (.var 0) [.str]) 
    (.cons (.ret (.bin .add (.bin .add (.str [34]) (.var 0)) (.str [34]))) .nil) .nil) 
  (.cons (.ite (.cmp .eq (.ix (.var 0) (.int 0)) (.str [108, 105, 115, 116])) 
    (.cons (.ret (.bin .add (.bin .add (.str [91]) (.meth .join (.str [44, 32]) (.cons (.comp (.call if_show_value (.cons (.var 1) .nil)) (.nm 1) (.seq (.ix (.var 0) (.int 1))) .nil [1]) .nil))) (.str [93]))) .nil) .nil) 
  (.cons (.ret (.bin .add (.bin .add (.str [123]) (.meth .join (.str [44, 32]) (.cons (.comp (.bin .add (.bin .add (.var 2) (.str [58, 32])) (.call if_show_value (.cons (.var 1) .nil))) (.tp [2, 1]) (.seq (.ix (.var 0) (.int 1))) .nil [2, 1]) .nil))) (.str [125]))) .nil)))))
def df_show_value : Df := ⟨"show_value", ["value"], ["value", "one", "name"], bf_show_value⟩
def bf_run_of : MSs :=
  (.cons (.set 3 (.var 1)) 
  (.cons (.while (.and (.cmp .lt (.var 3) (.blt .len (.cons (.var 0) .nil))) (.cmp .inn (.ix (.var 0) (.var 3)) (.var 2))) 
    (.cons (.aug 3 .add (.int 1)) .nil)) 
  (.cons (.ret (.sl (.var 0) (.som (.var 1)) (.som (.var 3)))) .nil)))
def df_run_of : Df := ⟨"run_of", ["text", "at", "signs"], ["text", "at", "signs", "end"], bf_run_of⟩
def bf_number_at : MSs :=
  (.cons (.set 2 (.blt .int (.cons (.cmp .eq (.sl (.var 0) (.som (.var 1)) (.som (.bin .add (.var 1) (.int 1)))) (.str [45])) .nil))) 
  (.cons (.set 3 (.call if_run_of (.cons (.var 0) (.cons (.bin .add (.var 1) (.var 2)) (.cons (.glob g_FIGURES) .nil))))) 
  (.cons (.set 4 (.bin .add (.bin .mul (.str [45]) (.var 2)) (.var 3))) 
  (.cons (.ite (.or (.cmp .eq (.var 3) (.str [])) (.or (.cmp .gt (.blt .len (.cons (.var 3) .nil)) (.glob g_MOST_FIGURES)) (.cmp .ne (.blt .str (.cons (.blt .int (.cons (.var 4) .nil)) .nil)) (.var 4)))) 
    (.cons .rse .nil) .nil) 
  (.cons (.ret (.tup (.cons (.blt .int (.cons (.var 4) .nil)) (.cons (.bin .add (.var 1) (.blt .len (.cons (.var 4) .nil))) .nil)))) .nil)))))
def df_number_at : Df := ⟨"number_at", ["text", "at"], ["text", "at", "minus", "figures", "written"], bf_number_at⟩
def bf_list_at : MSs :=
  (.cons (.set 3 (.lst .nil)) 
  (.cons (.set 4 (.bin .add (.var 1) (.int 1))) 
  (.cons (.ite (.cmp .eq (.sl (.var 0) (.som (.var 4)) (.som (.bin .add (.var 4) (.int 1)))) (.str [93])) 
    (.cons (.ret (.tup (.cons (.tup (.cons (.str [108, 105, 115, 116]) (.cons (.tup .nil) .nil))) (.cons (.bin .add (.var 4) (.int 1)) .nil)))) .nil) .nil) 
  (.cons (.while (.bl true) 
    (.cons (.setT [5, 4] (.call if_value_at (.cons (.var 0) (.cons (.var 4) (.cons (.bin .add (.var 2) (.int 1)) .nil))))) 
    (.cons (.expr (.meth .append (.var 3) (.cons (.var 5) .nil))) 
    (.cons (.ite (.cmp .eq (.sl (.var 0) (.som (.var 4)) (.som (.bin .add (.var 4) (.int 1)))) (.str [93])) 
      (.cons (.ret (.tup (.cons (.tup (.cons (.str [108, 105, 115, 116]) (.cons (.blt .tuple (.cons (.var 3) .nil)) .nil))) (.cons (.bin .add (.var 4) (.int 1)) .nil)))) .nil) .nil) 
    (.cons (.ite (.cmp .ne (.sl (.var 0) (.som (.var 4)) (.som (.bin .add (.var 4) (.int 2)))) (.str [44, 32])) 
      (.cons .rse .nil) .nil) 
    (.cons (.aug 4 .add (.int 2)) .nil)))))) .nil))))
def df_list_at : Df := ⟨"list_at", ["text", "at", "deep"], ["text", "at", "deep", "found", "end", "one"], bf_list_at⟩
def bf_record_at : MSs :=
  (.cons (.set 3 (.lst .nil)) 
  (.cons (.set 4 (.bin .add (.var 1) (.int 1))) 
  (.cons (.ite (.cmp .eq (.sl (.var 0) (.som (.var 4)) (.som (.bin .add (.var 4) (.int 1)))) (.str [125])) 
    (.cons (.ret (.tup (.cons (.tup (.cons (.str [114, 101, 99, 111, 114, 100]) (.cons (.tup .nil) .nil))) (.cons (.bin .add (.var 4) (.int 1)) .nil)))) .nil) .nil) 
  (.cons (.while (.bl true) 
    (.cons (.set 5 (.call if_run_of (.cons (.var 0) (.cons (.var 4) (.cons (.glob g_LETTERS) .nil))))) 
    (.cons (.aug 4 .add (.blt .len (.cons (.var 5) .nil))) 
    (.cons (.ite (.or (.not (.call if_is_name (.cons (.var 5) .nil))) (.cmp .ne (.sl (.var 0) (.som (.var 4)) (.som (.bin .add (.var 4) (.int 2)))) (.str [58, 32]))) 
      (.cons .rse .nil) .nil) 
    (.cons (.setT [6, 4] (.call if_value_at (.cons (.var 0) (.cons (.bin .add (.var 4) (.int 2)) (.cons (.bin .add (.var 2) (.int 1)) .nil))))) 
    (.cons (.expr (.meth .append (.var 3) (.cons (.tup (.cons (.var 5) (.cons (.var 6) .nil))) .nil))) 
    (.cons (.ite (.and (.cmp .eq (.sl (.var 0) (.som (.var 4)) (.som (.bin .add (.var 4) (.int 1)))) (.str [125])) (.call if_are_rising (.cons (.comp (.ix (.var 7) (.int 0)) (.nm 7) (.seq (.var 3)) .nil [7]) .nil))) 
      (.cons (.ret (.tup (.cons (.tup (.cons (.str [114, 101, 99, 111, 114, 100]) (.cons (.blt .tuple (.cons (.var 3) .nil)) .nil))) (.cons (.bin .add (.var 4) (.int 1)) .nil)))) .nil) .nil) 
    (.cons (.ite (.cmp .ne (.sl (.var 0) (.som (.var 4)) (.som (.bin .add (.var 4) (.int 2)))) (.str [44, 32])) 
      (.cons .rse .nil) .nil) 
    (.cons (.aug 4 .add (.int 2)) .nil))))))))) .nil))))
def df_record_at : Df := ⟨"record_at", ["text", "at", "deep"], ["text", "at", "deep", "found", "end", "name", "one", "pair"], bf_record_at⟩
def bf_value_at : MSs :=
  (.cons (.ite (.cmp .gt (.var 2) (.glob g_DEEPEST)) 
    (.cons .rse .nil) .nil) 
  (.cons (.set 3 (.sl (.var 0) (.som (.var 1)) (.som (.bin .add (.var 1) (.int 1))))) 
  (.cons (.ite (.cmp .eq (.var 3) (.str [91])) 
    (.cons (.ret (.call if_list_at (.cons (.var 0) (.cons (.var 1) (.cons (.var 2) .nil))))) .nil) .nil) 
  (.cons (.ite (.cmp .eq (.var 3) (.str [123])) 
    (.cons (.ret (.call if_record_at (.cons (.var 0) (.cons (.var 1) (.cons (.var 2) .nil))))) .nil) .nil) 
  (.cons (.ite (.cmp .eq (.var 3) (.str [34])) 
    (.cons (.set 4 (.call if_run_of (.cons (.var 0) (.cons (.bin .add (.var 1) (.int 1)) (.cons (.glob g_LETTERS) .nil))))) 
    (.cons (.set 5 (.bin .add (.bin .add (.var 1) (.int 1)) (.blt .len (.cons (.var 4) .nil)))) 
    (.cons (.ite (.cmp .ne (.sl (.var 0) (.som (.var 5)) (.som (.bin .add (.var 5) (.int 1)))) (.str [34])) 
      (.cons .rse .nil) .nil) 
    (.cons (.ret (.tup (.cons (.var 4) (.cons (.bin .add (.var 5) (.int 1)) .nil)))) .nil)))) .nil) 
  (.cons (.set 6 (.call if_run_of (.cons (.var 0) (.cons (.var 1) (.cons (.glob g_LETTERS) .nil))))) 
  (.cons (.ite (.cmp .inn (.var 6) (.tup (.cons (.str [116, 114, 117, 101]) (.cons (.str [102, 97, 108, 115, 101]) .nil)))) 
    (.cons (.ret (.tup (.cons (.cmp .eq (.var 6) (.str [116, 114, 117, 101])) (.cons (.bin .add (.var 1) (.blt .len (.cons (.var 6) .nil))) .nil)))) .nil) .nil) 
  (.cons (.ret (.call if_number_at (.cons (.var 0) (.cons (.var 1) .nil)))) .nil))))))))
def df_value_at : Df := ⟨"value_at", ["text", "at", "deep"], ["text", "at", "deep", "sign", "inner", "end", "word"], bf_value_at⟩
def bf_read_value : MSs :=
  (.cons (.setT [1, 2] (.call if_value_at (.cons (.var 0) (.cons (.int 0) (.cons (.int 1) .nil))))) 
  (.cons (.ite (.cmp .ne (.var 2) (.blt .len (.cons (.var 0) .nil))) 
    (.cons .rse .nil) .nil) 
  (.cons (.ret (.var 1)) .nil)))
def df_read_value : Df := ⟨"read_value", ["text"], ["text", "value", "end"], bf_read_value⟩
def bf_law_hand : MSs :=
  (.cons (.set 3 (.int 0)) 
  (.cons (.ite (.cmp .ne (.var 0) (.lst .nil)) 
    (.cons (.set 3 (.bin .mod (.blt .sum (.cons (.var 0) .nil)) (.int 2))) .nil) .nil) 
  (.cons (.ret (.lst (.cons (.var 1) (.cons (.bin .mod (.bin .mul (.bin .add (.bin .add (.bin .mod (.var 1) (.int 2147483629)) (.bin .mul (.int 7919) (.var 2))) (.int 1)) (.int 48271)) (.int 2147483647)) (.cons (.var 3) (.cons (.int 0) .nil)))))) .nil)))
def df_law_hand : Df := ⟨"_law_hand", ["script", "cell", "k"], ["script", "cell", "k", "way"], bf_law_hand⟩
def bf_law_draw : MSs :=
  (.cons (.ite (.cmp .eq (.ix (.var 0) (.int 2)) (.int 0)) 
    (.cons (.set 2 (.bin .mod (.ix (.var 0) (.int 0)) (.var 1))) 
    (.cons (.setI (.var 0) (.int 0) (.bin .fdiv (.ix (.var 0) (.int 0)) (.var 1))) 
    (.cons (.ret (.var 2)) .nil))) .nil) 
  (.cons (.setI (.var 0) (.int 1) (.bin .add (.bin .mod (.bin .mul (.ix (.var 0) (.int 1)) (.ix (.var 0) (.int 1))) (.int 2147483629)) (.int 3))) 
  (.cons (.ret (.bin .mod (.bin .fdiv (.bin .mod (.bin .mul (.ix (.var 0) (.int 1)) (.int 69621)) (.int 2147483563)) (.int 8)) (.var 1))) .nil)))
def df_law_draw : Df := ⟨"_law_draw", ["hand", "limit"], ["hand", "limit", "got"], bf_law_draw⟩
def bf_law_letters : MSs :=
  (.cons (.set 3 (.str [])) 
  (.cons (.for (.nm 4) (.rng (.cons (.bin .add (.var 1) (.call if_law_draw (.cons (.var 0) (.cons (.bin .add (.bin .sub (.var 2) (.var 1)) (.int 1)) .nil)))) .nil)) 
    (.cons (.set 3 (.bin .add (.var 3) (.ix (.str [97, 98, 99, 100, 101, 102, 103, 104, 105, 106, 107, 108, 109, 110, 111, 112, 113, 114, 115, 116, 117, 118, 119, 120, 121, 122]) (.call if_law_draw (.cons (.var 0) (.cons (.int 26) .nil)))))) .nil)) 
  (.cons (.ret (.var 3)) .nil)))
def df_law_letters : Df := ⟨"_law_letters", ["hand", "least", "most"], ["hand", "least", "most", "text", "k"], bf_law_letters⟩
def bf_law_text : MSs :=
  (.cons (.ite (.cmp .eq (.call if_law_draw (.cons (.var 0) (.cons (.int 3) .nil))) (.int 1)) 
    (.cons (.ret (.call if_law_letters (.cons (.var 0) (.cons (.int 0) (.cons (.int 20) .nil))))) .nil) .nil) 
  (.cons (.ret (.ix (.lst (.cons (.str []) (.cons (.str [97]) (.cons (.str [98]) (.cons (.str [97, 97]) (.cons (.str [97, 98]) (.cons (.str [98, 97]) (.cons (.str [97, 98, 99]) (.cons (.str [122]) (.cons (.str [116, 114, 117, 101]) (.cons (.bin .mul (.str [122]) (.int 20)) .nil))))))))))) (.call if_law_draw (.cons (.var 0) (.cons (.int 10) .nil))))) .nil))
def df_law_text : Df := ⟨"_law_text", ["hand"], ["hand"], bf_law_text⟩
def bf_law_number : MSs :=
  (.cons (.ite (.cmp .eq (.call if_law_draw (.cons (.var 0) (.cons (.int 3) .nil))) (.int 1)) 
    (.cons (.ret (.bin .sub (.call if_law_draw (.cons (.var 0) (.cons (.bin .add (.bin .mul (.int 2) (.bin .pow (.int 10) (.int 18))) (.int 1)) .nil))) (.bin .pow (.int 10) (.int 18)))) .nil) .nil) 
  (.cons (.ret (.ix (.lst (.cons (.int 0) (.cons (.int 1) (.cons (.neg (.int 1)) (.cons (.int 2) (.cons (.neg (.int 2)) (.cons (.int 3) (.cons (.int 10) (.cons (.neg (.int 10)) (.cons (.bin .pow (.int 10) (.int 18)) (.cons (.bin .sub (.int 0) (.bin .pow (.int 10) (.int 18))) .nil))))))))))) (.call if_law_draw (.cons (.var 0) (.cons (.int 10) .nil))))) .nil))
def df_law_number : Df := ⟨"_law_number", ["hand"], ["hand"], bf_law_number⟩
def bf_law_names : MSs :=
  (.cons (.set 1 (.dic .nil .nil)) 
  (.cons (.for (.nm 2) (.rng (.cons (.call if_law_draw (.cons (.var 0) (.cons (.ix (.lst (.cons (.int 4) (.cons (.int 9) .nil))) (.call if_law_draw (.cons (.var 0) (.cons (.int 2) .nil)))) .nil))) .nil)) 
    (.cons (.set 3 (.ix (.lst (.cons (.str [97]) (.cons (.str [98]) (.cons (.str [97, 98]) (.cons (.str [98, 97]) (.cons (.str [97, 98, 99]) (.cons (.str [122]) (.cons (.str [122, 122]) (.cons (.str [122, 122, 122, 122, 122, 122, 122, 122]) .nil))))))))) (.call if_law_draw (.cons (.var 0) (.cons (.int 8) .nil))))) 
    (.cons (.ite (.cmp .eq (.call if_law_draw (.cons (.var 0) (.cons (.int 3) .nil))) (.int 1)) 
      (.cons (.set 3 (.call if_law_letters (.cons (.var 0) (.cons (.int 1) (.cons (.int 8) .nil))))) .nil) .nil) 
    (.cons (.setI (.var 1) (.var 3) (.bl true)) .nil)))) 
  (.cons (.ret (.blt .sorted (.cons (.var 1) .nil))) .nil)))
def df_law_names : Df := ⟨"_law_names", ["hand"], ["hand", "some", "k", "name"], bf_law_names⟩
def bf_law_value : MSs :=
  (.cons (.set 2 (.call if_law_draw (.cons (.var 0) (.cons (.int 8) .nil)))) 
  (.cons (.setI (.var 0) (.int 3) (.bin .add (.ix (.var 0) (.int 3)) (.int 1))) 
  (.cons (.ite (.and (.cmp .gt (.var 2) (.int 5)) (.and (.cmp .gt (.var 1) (.int 1)) (.cmp .lt (.ix (.var 0) (.int 3)) (.int 20)))) 
    (.cons (.ite (.cmp .eq (.var 2) (.int 6)) 
      (.cons (.set 3 (.call if_law_draw (.cons (.var 0) (.cons (.ix (.lst (.cons (.int 4) (.cons (.int 9) .nil))) (.call if_law_draw (.cons (.var 0) (.cons (.int 2) .nil)))) .nil)))) 
      (.cons (.ret (.tup (.cons (.str [108, 105, 115, 116]) (.cons (.blt .tuple (.cons (.comp (.call if_law_value (.cons (.var 0) (.cons (.bin .sub (.var 1) (.int 1)) .nil))) (.nm 4) (.rng (.cons (.var 3) .nil)) .nil [4]) .nil)) .nil)))) .nil)) .nil) 
    (.cons (.ret (.tup (.cons (.str [114, 101, 99, 111, 114, 100]) (.cons (.blt .tuple (.cons (.comp (.tup (.cons (.var 5) (.cons (.call if_law_value (.cons (.var 0) (.cons (.bin .sub (.var 1) (.int 1)) .nil))) .nil))) (.nm 5) (.seq (.call if_law_names (.cons (.var 0) .nil))) .nil [5]) .nil)) .nil)))) .nil)) .nil) 
  (.cons (.ite (.cmp .inn (.var 2) (.tup (.cons (.int 0) (.cons (.int 3) (.cons (.int 6) .nil))))) 
    (.cons (.ret (.call if_law_number (.cons (.var 0) .nil))) .nil) .nil) 
  (.cons (.ite (.cmp .inn (.var 2) (.tup (.cons (.int 1) (.cons (.int 4) (.cons (.int 7) .nil))))) 
    (.cons (.ret (.call if_law_text (.cons (.var 0) .nil))) .nil) .nil) 
  (.cons (.ret (.ix (.lst (.cons (.bl false) (.cons (.bl true) .nil))) (.call if_law_draw (.cons (.var 0) (.cons (.int 2) .nil))))) .nil))))))
def df_law_value : Df := ⟨"_law_value", ["hand", "deep"], ["hand", "deep", "kind", "many", "k", "name"], bf_law_value⟩
def bf_law_small : MSs :=
  (.cons (.ret (.ix (.lst (.cons (.int 0) (.cons (.int 1) (.cons (.neg (.int 1)) (.cons (.str [97]) (.cons (.str []) (.cons (.bl true) (.cons (.bl false) (.cons (.int 7) .nil))))))))) (.call if_law_draw (.cons (.var 0) (.cons (.int 8) .nil))))) .nil)
def df_law_small : Df := ⟨"_law_small", ["hand"], ["hand"], bf_law_small⟩
def bf_law_wide : MSs :=
  (.cons (.set 1 (.call if_law_draw (.cons (.var 0) (.cons (.int 2) .nil)))) 
  (.cons (.set 2 (.comp (.call if_law_small (.cons (.var 0) .nil)) (.nm 3) (.rng (.cons (.bin .add (.int 9) (.call if_law_draw (.cons (.var 0) (.cons (.int 50) .nil)))) .nil)) .nil [3])) 
  (.cons (.ite (.cmp .eq (.var 1) (.int 0)) 
    (.cons (.ret (.tup (.cons (.str [108, 105, 115, 116]) (.cons (.blt .tuple (.cons (.var 2) .nil)) .nil)))) .nil) .nil) 
  (.cons (.set 4 (.str [97, 98, 99, 100, 101, 102, 103, 104, 105, 106, 107, 108, 109, 110, 111, 112, 113, 114, 115, 116, 117, 118, 119, 120, 121, 122])) 
  (.cons (.ret (.tup (.cons (.str [114, 101, 99, 111, 114, 100]) (.cons (.blt .tuple (.cons (.comp (.tup (.cons (.bin .add (.ix (.var 4) (.bin .fdiv (.var 3) (.int 3))) (.ix (.str [97, 98, 99]) (.bin .mod (.var 3) (.int 3)))) (.cons (.ix (.var 2) (.var 3)) .nil))) (.nm 3) (.rng (.cons (.blt .len (.cons (.var 2) .nil)) .nil)) .nil [3]) .nil)) .nil)))) .nil)))))
def df_law_wide : Df := ⟨"_law_wide", ["hand"], ["hand", "kind", "parts", "k", "letters"], bf_law_wide⟩
def bf_law_chain : MSs :=
  (.cons (.set 2 (.call if_law_small (.cons (.var 0) .nil))) 
  (.cons (.for (.nm 3) (.rng (.cons (.call if_law_draw (.cons (.var 0) (.cons (.var 1) .nil))) .nil)) 
    (.cons (.set 4 (.lst (.cons (.tup (.cons (.str [108, 105, 115, 116]) (.cons (.tup (.cons (.var 2) .nil)) .nil))) (.cons (.tup (.cons (.str [108, 105, 115, 116]) (.cons (.tup (.cons (.int 0) (.cons (.var 2) .nil))) .nil))) (.cons (.tup (.cons (.str [114, 101, 99, 111, 114, 100]) (.cons (.tup (.cons (.tup (.cons (.str [97]) (.cons (.var 2) .nil))) .nil)) .nil))) .nil))))) 
    (.cons (.set 2 (.ix (.bin .add (.var 4) (.lst (.cons (.tup (.cons (.str [114, 101, 99, 111, 114, 100]) (.cons (.tup (.cons (.tup (.cons (.str [97]) (.cons (.int 1) .nil))) (.cons (.tup (.cons (.str [98]) (.cons (.var 2) .nil))) .nil))) .nil))) .nil))) (.call if_law_draw (.cons (.var 0) (.cons (.int 4) .nil))))) .nil))) 
  (.cons (.ret (.var 2)) .nil)))
def df_law_chain : Df := ⟨"_law_chain", ["hand", "most"], ["hand", "most", "value", "k", "ways"], bf_law_chain⟩
def bf_law_drawn : MSs :=
  (.cons (.set 2 (.call if_law_draw (.cons (.var 0) (.cons (.int 6) .nil)))) 
  (.cons (.ite (.cmp .eq (.var 2) (.int 1)) 
    (.cons (.ret (.call if_law_wide (.cons (.var 0) .nil))) .nil) .nil) 
  (.cons (.ite (.cmp .eq (.var 2) (.int 2)) 
    (.cons (.ret (.call if_law_chain (.cons (.var 0) (.cons (.var 1) .nil)))) .nil) .nil) 
  (.cons (.ret (.call if_law_value (.cons (.var 0) (.cons (.int 5) .nil)))) .nil))))
def df_law_drawn : Df := ⟨"_law_drawn", ["hand", "most"], ["hand", "most", "way"], bf_law_drawn⟩
def bf_law_written : MSs :=
  (.cons (.ite (.isin (.var 0) [.bool]) 
    (.cons (.ret (.ix (.lst (.cons (.str [102, 97, 108, 115, 101]) (.cons (.str [116, 114, 117, 101]) .nil))) (.blt .int (.cons (.var 0) .nil)))) .nil) .nil) 
  (.cons (.ite (.isin (.var 0) [.int]) 
    (.cons (.ret (.blt .str (.cons (.var 0) .nil))) .nil) .nil) 
  (.cons (.ite (.isin (.var 0) [.str]) 
    (.cons (.ret (.bin .add (.bin .add (.str [34]) (.var 0)) (.str [34]))) .nil) .nil) 
  (.cons (.ite (.cmp .eq (.ix (.var 0) (.int 0)) (.str [108, 105, 115, 116])) 
    (.cons (.ret (.bin .add (.bin .add (.str [91]) (.meth .join (.str [44, 32]) (.cons (.comp (.call if_law_written (.cons (.var 1) .nil)) (.nm 1) (.seq (.ix (.var 0) (.int 1))) .nil [1]) .nil))) (.str [93]))) .nil) .nil) 
  (.cons (.ret (.bin .add (.bin .add (.str [123]) (.meth .join (.str [44, 32]) (.cons (.comp (.bin .add (.bin .add (.var 2) (.str [58, 32])) (.call if_law_written (.cons (.var 1) .nil))) (.tp [2, 1]) (.seq (.ix (.var 0) (.int 1))) .nil [2, 1]) .nil))) (.str [125]))) .nil)))))
def df_law_written : Df := ⟨"_law_written", ["value"], ["value", "one", "name"], bf_law_written⟩
def bf_law_alike : MSs :=
  (.cons (.ite (.or (.cmp .ne (.isin (.var 0) [.bool]) (.isin (.var 1) [.bool])) (.cmp .ne (.isin (.var 0) [.tuple]) (.isin (.var 1) [.tuple]))) 
    (.cons (.ret (.bl false)) .nil) .nil) 
  (.cons (.ite (.not (.isin (.var 0) [.tuple])) 
    (.cons (.ret (.cmp .eq (.var 0) (.var 1))) .nil) .nil) 
  (.cons (.ite (.cmp .ne (.blt .len (.cons (.var 0) .nil)) (.blt .len (.cons (.var 1) .nil))) 
    (.cons (.ret (.bl false)) .nil) .nil) 
  (.cons (.ret (.blt .all (.cons (.comp (.call if_law_alike (.cons (.ix (.var 0) (.var 2)) (.cons (.ix (.var 1) (.var 2)) .nil))) (.nm 2) (.rng (.cons (.blt .len (.cons (.var 0) .nil)) .nil)) .nil [2]) .nil))) .nil))))
def df_law_alike : Df := ⟨"_law_alike", ["one", "other"], ["one", "other", "k"], bf_law_alike⟩
def bf_law_right : MSs :=
  (.cons (.set 1 (.call if_show_value (.cons (.var 0) .nil))) 
  (.cons (.ret (.and (.isin (.var 1) [.str]) (.and (.cmp .eq (.var 1) (.call if_law_written (.cons (.var 0) .nil))) (.call if_law_alike (.cons (.call if_read_value (.cons (.var 1) .nil)) (.cons (.var 0) .nil)))))) .nil))
def df_law_right : Df := ⟨"_law_right", ["value"], ["value", "text"], bf_law_right⟩
def bf_law : MSs :=
  (.cons (.set 1 (.lst (.cons (.int 0) (.cons (.neg (.int 1)) (.cons (.str []) (.cons (.str [116, 114, 117, 101]) (.cons (.bl true) (.cons (.bl false) (.cons (.tup (.cons (.str [108, 105, 115, 116]) (.cons (.tup .nil) .nil))) (.cons (.tup (.cons (.str [114, 101, 99, 111, 114, 100]) (.cons (.tup .nil) .nil))) .nil)))))))))) 
  (.cons (.for (.nm 2) (.seq (.bin .add (.var 1) (.lst (.cons (.tup (.cons (.str [108, 105, 115, 116]) (.cons (.tup (.cons (.tup (.cons (.str [108, 105, 115, 116]) (.cons (.tup .nil) .nil))) (.cons (.tup (.cons (.str [114, 101, 99, 111, 114, 100]) (.cons (.tup .nil) .nil))) .nil))) .nil))) .nil)))) 
    (.cons (.ite (.not (.call if_law_right (.cons (.var 2) .nil))) 
      (.cons (.ret (.bl false)) .nil) .nil) .nil)) 
  (.cons (.for (.tp [3, 4]) (.enum (.sl (.var 0) .non (.som (.int 63)))) 
    (.cons (.set 5 (.call if_law_hand (.cons (.var 0) (.cons (.var 4) (.cons (.var 3) .nil))))) 
    (.cons (.ite (.not (.call if_law_right (.cons (.call if_law_drawn (.cons (.var 5) (.cons (.int 20) .nil))) .nil))) 
      (.cons (.ret (.bl false)) .nil) .nil) .nil))) 
  (.cons (.ret (.call if_law_right (.cons (.tup (.cons (.str [108, 105, 115, 116]) (.cons (.blt .tuple (.cons (.comp (.bin .sub (.bin .mul (.var 3) (.int 7)) (.int 200)) (.nm 3) (.rng (.cons (.int 60) .nil)) .nil [3]) .nil)) .nil))) .nil))) .nil))))
def df_law : Df := ⟨"law", ["script"], ["script", "some", "value", "k", "cell", "hand"], bf_law⟩
def pgm : Pgm := ⟨[df_is_number, df_is_text, df_is_name, df_are_rising, df_show_value, df_run_of, df_number_at, df_list_at, df_record_at, df_value_at, df_read_value, df_law_hand, df_law_draw, df_law_letters, df_law_text, df_law_number, df_law_names, df_law_value, df_law_small, df_law_wide, df_law_chain, df_law_drawn, df_law_written, df_law_alike, df_law_right, df_law], ["isinstance", "bool", "int", "str", "range", "len", "tuple", "sum", "sorted", "all", "enumerate"], [("LETTERS", (.str [97, 98, 99, 100, 101, 102, 103, 104, 105, 106, 107, 108, 109, 110, 111, 112, 113, 114, 115, 116, 117, 118, 119, 120, 121, 122])), ("FIGURES", (.str [48, 49, 50, 51, 52, 53, 54, 55, 56, 57])), ("MOST_FIGURES", (.int 40)), ("DEEPEST", (.int 20))]⟩
end LW

namespace LW
open PySem PySem.Spec PyProof.Rows L2 MP
abbrev row : PySem.W.OpenLaw := PySem.Challenge.rw_allmeet_k04_values_written
def top (i : Nat) : Stmt := PySem.Challenge.pw_allmeet_k04_values_written.main.body.getD i (.Pass ⟨0, 0, 0, 0⟩)
def datum (x : Str) (i : Nat) : He.DefD := ⟨(x, none), x, x, defArgs (top i), defBody (top i), defScope (top i), [], []⟩
def fn : List He.DefD := [datum "is_number" 5, datum "is_text" 6, datum "is_name" 7, datum "are_rising" 8, datum "show_value" 13, datum "run_of" 14, datum "number_at" 15, datum "list_at" 16, datum "record_at" 17, datum "value_at" 18, datum "read_value" 19, datum "_law_hand" 21, datum "_law_draw" 22, datum "_law_letters" 23, datum "_law_text" 24, datum "_law_number" 25, datum "_law_names" 26, datum "_law_value" 27, datum "_law_small" 28, datum "_law_wide" 29, datum "_law_chain" 30, datum "_law_drawn" 31, datum "_law_written" 32, datum "_law_alike" 33, datum "_law_right" 34, datum "law" 35]
def loose : List Str := [("MeetError" : Str), ("NoValue" : Str), ("LETTERS" : Str), ("is_number" : Str), ("is_text" : Str), ("is_name" : Str), ("are_rising" : Str), ("FIGURES" : Str), ("MOST_FIGURES" : Str), ("DEEPEST" : Str), ("show_value" : Str), ("run_of" : Str), ("number_at" : Str), ("list_at" : Str), ("record_at" : Str), ("value_at" : Str), ("read_value" : Str), ("_law_hand" : Str), ("_law_draw" : Str), ("_law_letters" : Str), ("_law_text" : Str), ("_law_number" : Str), ("_law_names" : Str), ("_law_value" : Str), ("_law_small" : Str), ("_law_wide" : Str), ("_law_chain" : Str), ("_law_drawn" : Str), ("_law_written" : Str), ("_law_alike" : Str), ("_law_right" : Str)]
theorem checked : pgm.chk fn = true := by decide +kernel
abbrev lawAt : Nat := 35
abbrev lawIx : Nat := 25
abbrev STEPS : Nat := 4000
abbrev hk : PySem.W.Hook := MP.hookG 4 pgm.fa fn pgm.ex
def ob (s : PySem.W.SharedT) : He.AlD × Bool := MP.obG 4 pgm.fa fn pgm.ex (HandSHeadRun.getT s)
theorem ob_eq (s : PySem.W.SharedT) : ob s = hk.obs s.abs := MP.obG_eq (HandSHeadRun.getT_eq s)
section
open PySem.Calls HandSHeadRun PySem.W
noncomputable def endS (w : World) (os : OsState) := endF (stepQ (denQ tabQ) (PySem.W.OpenLaw.row row).prog w) STEPS (PySem.W.OpenLaw.row row).prog w os
theorem run1 (w : World) (os : OsState) : (endS w os).map (fun s => looksF (PySem.W.OpenLaw.row row).prog (boot_heap w.params) s.abs) = some true := by kernel_rfl
theorem run2 (w : World) (os : OsState) : (endS w os).map (fun s => seenQ (PySem.W.view (PySem.W.OpenLaw.row row).prog [lawAt]) loose (importedModules (PySem.W.OpenLaw.row row).prog.main.body) (fun s => xlAt (PySem.W.view (PySem.W.OpenLaw.row row).prog [lawAt]) [] s && recOk (PySem.W.OpenLaw.row row).toRowW.records s) s.abs) = some (openGood (PySem.W.view (PySem.W.OpenLaw.row row).prog [lawAt]) loose) := by kernel_rfl
theorem run3 (w : World) (os : OsState) : (endS w os).map (fun s => (ob s).1.1) = some (hk.val w).1.1 := by kernel_rfl
theorem run4 (w : World) (os : OsState) : (endS w os).map (fun s => (ob s).1.2.take 40) = some ((hk.val w).1.2.take 40) := by kernel_rfl
theorem run5 (w : World) (os : OsState) : (endS w os).map (fun s => (ob s).1.2.drop 40) = some ((hk.val w).1.2.drop 40) := by kernel_rfl
theorem run6 (w : World) (os : OsState) : (endS w os).map (fun s => (ob s).2) = some (hk.val w).2 := by kernel_rfl
theorem run (w : World) : HandSHeadRun.RunEq (PySem.W.OpenLaw.row row) (PySem.W.view (PySem.W.OpenLaw.row row).prog [lawAt]) hk ob STEPS loose w := by
  intro os
  exact MP.opt4 (run1 w os) (run2 w os) (MP.opt2 (run3 w os) (MP.optTD (run4 w os) (run5 w os))) (run6 w os)
end
theorem law_named : (HandSHeadRun.topDef (PySem.W.OpenLaw.row row).prog lawAt).name = ("law" : Str) := by kernel_rfl
end LW

namespace LW
open MP PySem
/-! an int's text -/
theorem numT_nat (n : Nat) : numT (n : Int) = TL.numL n := TL.tl_num n
theorem numT_neg {n : Nat} (h : 0 < n) : numT (-(n : Int)) = 45 :: TL.numL n := by
  obtain ⟨m, rfl⟩ : ∃ m, n = m + 1 := ⟨n - 1, by omega⟩
  have e : (-((m + 1 : Nat) : Int)) = Int.negSucc m := rfl
  unfold numT
  rw [e, PyProof.Rows.signs_ofString]
  have e2 : toString (Int.negSucc m) = "-" ++ toString (m + 1) := rfl
  rw [e2, String.toList_append, List.map_append]
  have e3 := TL.tl_num (m + 1)
  have e4 : TL.tl (Str.ofString (toString ((m + 1 : Nat) : Int))) = (toString (m + 1)).toList.map Char.toNat := by
    show (Str.ofString _).cps.toList = _
    rw [PyProof.Rows.signs_ofString]; rfl
  rw [← e3, e4]
  rfl
theorem numL_az {n c : Nat} (h : c ∈ TL.numL n) : 48 ≤ c ∧ c ≤ 57 := TL.numL_digits n c h
theorem numT_cases (i : Int) : (0 ≤ i ∧ numT i = TL.numL i.natAbs) ∨ (i < 0 ∧ numT i = 45 :: TL.numL i.natAbs) := by
  rcases Int.lt_or_le i 0 with h | h
  · refine .inr ⟨h, ?_⟩
    have := numT_neg (n := i.natAbs) (by omega)
    rwa [show -((i.natAbs : Nat) : Int) = i by omega] at this
  · refine .inl ⟨h, ?_⟩
    have := numT_nat i.natAbs
    rwa [show ((i.natAbs : Nat) : Int) = i by omega] at this
theorem numT_len {i : Int} {k : Nat} (hk : 0 < k) (h : i.natAbs < 10 ^ k) : (numT i).length ≤ k + 1 := by
  have := TL.numL_len hk h
  rcases numT_cases i with ⟨_, e⟩ | ⟨_, e⟩ <;> rw [e]
  · omega
  · rw [List.length_cons]; omega
theorem int_numT {i : Int} (h : (numT i).length ≤ 600) : PySem.intText? ⟨(numT i).toArray⟩ = some i := by
  rcases numT_cases i with ⟨h0, e⟩ | ⟨h0, e⟩
  · rw [e] at h ⊢
    have := intText_digits (x := ⟨(TL.numL i.natAbs).toArray⟩) (by show NumText.AllDigits (List.toArray _).toList; rw [List.toList_toArray]; exact TL.numL_digits _) (by show (List.toArray _).toList ≠ []; rw [List.toList_toArray]; exact TL.numL_ne _) (by show (List.toArray _).size ≤ _; rw [List.size_toArray]; omega)
    rw [this]
    show some (((NumText.digitsVal (List.toArray _).toList : Nat)) : Int) = _
    rw [List.toList_toArray, TL.numL_val]
    congr 1
    omega
  · rw [e] at h ⊢
    have := intText_neg (x := ⟨(45 :: TL.numL i.natAbs).toArray⟩) (cs := TL.numL i.natAbs) (by show (List.toArray _).toList = _; rw [List.toList_toArray]) (TL.numL_digits _) (TL.numL_ne _) (by show (List.toArray _).size ≤ _; rw [List.size_toArray]; omega)
    rw [this, TL.numL_val]
    congr 1
    omega
end LW

namespace LW
open MP PySem
/-! a value's text -/
def tTrue : Tx := [116, 114, 117, 101]
def tFalse : Tx := [102, 97, 108, 115, 101]
def tSep : Tx := [44, 32]
mutual
def shV : Vl → Tx
  | .num i => numT i
  | .txt x => 34 :: (x ++ [34])
  | .tru b => if b then tTrue else tFalse
  | .lst vs => 91 :: (joinT tSep (shVs vs) ++ [93])
  | .rcd fs => 123 :: (joinT tSep (shFs fs) ++ [125])
def shVs : Vls → List Tx
  | .nil => []
  | .cons v r => shV v :: shVs r
def shFs : Fls → List Tx
  | .nil => []
  | .cons x v r => (x ++ [58, 32] ++ shV v) :: shFs r
end
theorem shVs_eq : ∀ vs : Vls, shVs vs = vs.toL.map shV
  | .nil => rfl
  | .cons v r => by rw [shVs, Vls.toL, List.map_cons, shVs_eq r]
theorem shFs_eq : ∀ vs : Fls, shFs vs = vs.toL.map fun p => p.1 ++ [58, 32] ++ shV p.2
  | .nil => rfl
  | .cons x v r => by rw [shFs, Fls.toL, List.map_cons, shFs_eq r]
theorem foldl_len (sep : Tx) : ∀ (r : List Tx) (x : Tx), (r.foldl (fun acc p => acc ++ sep ++ p) x).length = x.length + (r.map List.length).sum + r.length * sep.length
  | [], x => by simp
  | p :: r, x => by
    rw [List.foldl_cons, foldl_len sep r, List.map_cons, List.sum_cons, List.length_append, List.length_append, List.length_cons, Nat.succ_mul]
    omega
theorem joinT_len {sep : Tx} {ts : List Tx} : (ts.map List.length).sum + (ts.length - 1) * sep.length = (joinT sep ts).length := by
  cases ts with
  | nil => simp [joinT]
  | cons x r =>
    rw [joinT, foldl_len, List.map_cons, List.sum_cons, List.length_cons, Nat.add_sub_cancel]
theorem joinT_cons (sep x y : Tx) (r : List Tx) : joinT sep (x :: y :: r) = x ++ sep ++ joinT sep (y :: r) := by
  have key : ∀ (r : List Tx) (a b : Tx), r.foldl (fun acc p => acc ++ sep ++ p) (a ++ b) = a ++ r.foldl (fun acc p => acc ++ sep ++ p) b := fun r => by
    induction r with
    | nil => intro a b; rfl
    | cons p r ih =>
      intro a b
      rw [List.foldl_cons, List.foldl_cons, List.append_assoc, List.append_assoc, ← List.append_assoc b, ih]
  show (y :: r).foldl (fun acc p => acc ++ sep ++ p) x = x ++ sep ++ r.foldl (fun acc p => acc ++ sep ++ p) y
  rw [List.foldl_cons]
  exact key r (x ++ sep) y
theorem join_each {sep : Tx} {ts : List Tx} {x : Tx} (m : x ∈ ts) : x.length ≤ (joinT sep ts).length := by
  rw [← joinT_len]
  have : x.length ≤ (ts.map List.length).sum := by
    induction ts with
    | nil => cases m
    | cons y r ih =>
      rw [List.map_cons, List.sum_cons]
      rcases List.mem_cons.mp m with z | z
      · rw [z]; omega
      · have := ih z; omega
  omega
theorem m_joinS {sep : Tx} {ts : List Tx} {h : Hm} {Q : RV → Hm → Prop} (l : (joinT sep ts).length + sep.length ≤ 16777216) (q : Q (.v (.str (joinT sep ts))) h) : Sat (mthF .join (.v (.str sep)) [.l (ts.map .str)] h) Q := by
  have e1 : RV.lst? h (.l (ts.map D.str)) = some (ts.map D.str) := rfl
  have e2 : strs? (ts.map D.str) = some ts := by
    clear l q e1
    induction ts with
    | nil => rfl
    | cons x r ih =>
      show mapO str1? (D.str x :: r.map D.str) = _
      rw [mapO, show mapO str1? (r.map D.str) = some r from ih]; rfl
  have e3 : (ts.map List.length).sum + ts.length * sep.length ≤ SL := by
    have := joinT_len (sep := sep) (ts := ts)
    have e4 : ts.length * sep.length ≤ (ts.length - 1) * sep.length + sep.length := by
      cases ts with
      | nil => simp
      | cons x r => rw [List.length_cons, Nat.add_sub_cancel, Nat.succ_mul]; exact Nat.le_refl _
    show _ ≤ 16777216
    omega
  show Sat (match RV.lst? h (.l (ts.map D.str)) with
    | some xs => match strs? xs with
      | some ts => if (ts.map List.length).sum + ts.length * sep.length ≤ SL then ok1 (.str (joinT sep ts)) h else .bad
      | none => .bad
    | none => .bad) Q
  rw [e1]
  dsimp only
  rw [e2]
  dsimp only
  rw [if_pos e3]
  exact q
theorem lowT_true : lowT [84, 114, 117, 101] = tTrue := by decide +kernel
theorem lowT_false : lowT [70, 97, 108, 115, 101] = tFalse := by decide +kernel
/-! ints that are not too long -/
mutual
def nbV : Vl → Bool
  | .num i => decide (i.natAbs < 10 ^ 30)
  | .txt _ => true
  | .tru _ => true
  | .lst vs => nbVs vs
  | .rcd fs => nbFs fs
def nbVs : Vls → Bool
  | .nil => true
  | .cons v r => nbV v && nbVs r
def nbFs : Fls → Bool
  | .nil => true
  | .cons _ v r => nbV v && nbFs r
end
theorem nbVs_iff : ∀ vs : Vls, nbVs vs = true ↔ ∀ v ∈ vs.toL, nbV v = true
  | .nil => by simp [nbVs, Vls.toL]
  | .cons v r => by rw [nbVs, Bool.and_eq_true, nbVs_iff r, Vls.toL]; simp
theorem nbFs_iff : ∀ vs : Fls, nbFs vs = true ↔ ∀ p ∈ vs.toL, nbV p.2 = true
  | .nil => by simp [nbFs, Fls.toL]
  | .cons x v r => by
    rw [nbFs, Bool.and_eq_true, nbFs_iff r, Fls.toL]
    constructor
    · rintro ⟨a, b⟩ p m
      rcases List.mem_cons.mp m with z | z
      · rw [z]; exact a
      · exact b p z
    · exact fun h => ⟨h (x, v) List.mem_cons_self, fun p m => h p (List.mem_cons_of_mem _ m)⟩
theorem log_ok {i : Int} (h : i.natAbs < 10 ^ 30) : i.natAbs.log2 < 1920 := by
  by_cases z : i.natAbs = 0
  · rw [z]; decide
  · exact (Nat.log2_lt z).mpr (Nat.lt_of_lt_of_le h (by decide +kernel))
end LW

namespace LW
open MP
theorem is_number {K : Nat} {h : Hm} {d : D} (hK : 1 ≤ K) (t : Tm h d = true) {Q : D → Hm → Prop} (q : Q (.bl (isN d)) h) : Sat (callF pgm.pg K if_is_number [d] h) Q := by
  obtain ⟨K, rfl⟩ : ∃ k, K = k + 1 := ⟨K - 1, by omega⟩
  refine sat_call (F := df_is_number.fd) rfl rfl ?_
  show Sat (evSs pgm.pg.G (callF pgm.pg K) bf_is_number (startE 1 [d]) h) _
  unfold bf_is_number startE
  rw [w_one]
  simp [isk_i t, isk_b t]
  have fin : ∀ x : Bool, isN d = x → Over h h ∧ (D.bl x).cl h.length = true ∧ Q (.bl x) h := fun x e => ⟨Over.refl, rfl, by rw [← e]; exact q⟩
  cases d <;> simp [isN, isBo] at * <;> exact fin
def XI (x : Tx) (h : Hm) (P : Prop) (σ : MP.Env) (h' : Hm) : Prop := ∃ o, σ = [some (.str x), o] ∧ h' = h ∧ P
def RI0 (r : Nat) (h : Hm) (P : Prop) (σ : MP.Env) (h' : Hm) : Prop := ∃ o, σ = [some (.ref r), o] ∧ h' = h ∧ P
theorem is_text {K n : Nat} {h : Hm} {d : D} (hK : 1 ≤ K) (t : Tm h d = true) (g : Tg n d = true) {Q : D → Hm → Prop} (q : Q (.bl (isTx d)) h) : Sat (callF pgm.pg K if_is_text [d] h) Q := by
  obtain ⟨K, rfl⟩ : ∃ k, K = k + 1 := ⟨K - 1, by omega⟩
  refine sat_call (F := df_is_text.fd) rfl rfl ?_
  show Sat (evSs pgm.pg.G (callF pgm.pg K) bf_is_text (startE 2 [d]) h) _
  unfold bf_is_text startE
  have fin : ∀ x : Bool, isTx d = x → Over h h ∧ (D.bl x).cl h.length = true ∧ Q (.bl x) h := fun x e => ⟨Over.refl, rfl, by rw [← e]; exact q⟩
  rw [w_cons]
  simp [isk_s t]
  refine ⟨fun e => ?_, fun e => ?_⟩
  case refine_2 =>
    refine fin false ?_
    cases d with
    | str _ => cases e
    | _ => rfl
  obtain ⟨x, rfl⟩ : ∃ x, d = .str x := by
    cases d with
    | str x => exact ⟨x, rfl⟩
    | _ => cases e
  obtain ⟨ax, lx⟩ := Tg_str g
  refine sat_seq (XI x h (isAz x = true)) ?_ ?_
  · simp
    refine ⟨by show _ ≤ 16777216; omega, ?_⟩
    refine sat_forX (fun i σ h' => XI x h (isAz (x.take i) = true) σ h') ⟨_, rfl, rfl, rfl⟩ ?_ ?_
    · intro i y σ h' ey z
      obtain ⟨o, rfl, rfl, az⟩ := z
      refine ⟨hc_nil, ?_⟩
      rw [List.getElem?_map] at ey
      obtain ⟨c, ec, rfl⟩ := Option.map_eq_some_iff.mp ey
      obtain ⟨hi, hc⟩ := List.getElem?_eq_some_iff.mp ec
      have cn : copB .notin (.v (.str [c])) (.v (pgm.pg.G 0)) h' = some (!(decide (97 ≤ c) && decide (c ≤ 122))) := c_notL
      simp
      rw [w_one]
      simp [cn]
      refine ⟨fun ne => ?_, fun l1 l2 => ?_⟩
      · refine fin false ?_
        cases e2 : isAz x with
        | false => exact e2
        | true =>
          unfold isAz at e2
          rw [List.all_eq_true] at e2
          have := e2 c (List.mem_of_getElem? ec)
          simp at this
          omega
      · refine ⟨_, rfl, rfl, ?_⟩
        rw [List.take_succ_eq_append_getElem hi, az_app, az, hc]
        simp [isAz, l1, l2]
    · intro σ h' z
      obtain ⟨o, rfl, rfl, az⟩ := z
      rw [List.length_map, List.take_length] at az
      exact ⟨hc_nil, _, rfl, rfl, az⟩
  intro σ h' z
  obtain ⟨o, rfl, rfl, az⟩ := z
  simp
  exact fin true az
theorem is_name {K n : Nat} {h : Hm} {d : D} (hK : 2 ≤ K) (t : Tm h d = true) (g : Tg n d = true) {Q : D → Hm → Prop} (q : Q (.bl (isNm d)) h) : Sat (callF pgm.pg K if_is_name [d] h) Q := by
  obtain ⟨K, rfl⟩ : ∃ k, K = k + 1 := ⟨K - 1, by omega⟩
  refine sat_call (F := df_is_name.fd) rfl rfl ?_
  show Sat (evSs pgm.pg.G (callF pgm.pg K) bf_is_name (startE 1 [d]) h) _
  unfold bf_is_name startE
  have fin : ∀ x : Bool, isNm d = x → Over h h ∧ (D.bl x).cl h.length = true ∧ Q (.bl x) h := fun x e => ⟨Over.refl, rfl, by rw [← e]; exact q⟩
  rw [w_one]
  simp
  refine is_text (by omega) t g ?_
  simp
  refine ⟨fun e => ?_, fun e => ?_⟩
  · obtain ⟨x, rfl⟩ : ∃ x, d = .str x := by
      cases d with
      | str x => exact ⟨x, rfl⟩
      | _ => cases e
    have e : isAz x = true := e
    rw [c_nes (Tg_str g).1 rfl]
    refine fin _ ?_
    show (isAz x && !x.isEmpty) = _
    rw [e]
    cases x <;> rfl
  · refine fin false ?_
    cases d with
    | str x =>
      have e : isAz x = false := e
      show (isAz x && !x.isEmpty) = false
      rw [e]; rfl
    | _ => rfl
theorem are_rising {K r : Nat} {h : Hm} {ts : List Tx} (hK : 1 ≤ K) (er : hAt h r = some (.lst (ts.map .str))) (lt : ts.length ≤ 1000) {Q : D → Hm → Prop} (q : Q (.bl (risT ts)) h) : Sat (callF pgm.pg K if_are_rising [.ref r] h) Q := by
  obtain ⟨K, rfl⟩ : ∃ k, K = k + 1 := ⟨K - 1, by omega⟩
  refine sat_call (F := df_are_rising.fd) rfl rfl ?_
  show Sat (evSs pgm.pg.G (callF pgm.pg K) bf_are_rising (startE 2 [.ref r]) h) _
  unfold bf_are_rising startE
  have fin : ∀ x : Bool, risT ts = x → Over h h ∧ (D.bl x).cl h.length = true ∧ Q (.bl x) h := fun x e => ⟨Over.refl, rfl, by rw [← e]; exact q⟩
  refine sat_seq (RI0 r h (risT ts = true)) ?_ ?_
  · simp [er]
    refine ⟨⟨by decide, small_ok (by omega) (by omega), by show _ ≤ 16777216 + 1; omega⟩, ?_⟩
    refine sat_forN (fun i σ h' => RI0 r h (∀ j < i, ltT (ts[j]?.getD []) (ts[j + 1]?.getD []) = true) σ h') ⟨_, rfl, rfl, fun j l => by omega⟩ ?_ ?_
    · intro i σ h' hi z
      obtain ⟨o, rfl, rfl, al⟩ := z
      refine ⟨hc_nil, ?_⟩
      have h1 : i < ts.length := by omega
      have h2 : i + 1 < ts.length := by omega
      have e1 : atI (ts.map D.str) ((1 : Int) + i - 1) = some (.str ts[i]) := by
        rw [show (1 : Int) + i - 1 = (i : Int) by omega, atI_nat, List.getElem?_map, List.getElem?_eq_getElem h1]; rfl
      have e2 : atI (ts.map D.str) ((1 : Int) + i) = some (.str ts[i + 1]) := by
        rw [show (1 : Int) + i = ((i + 1 : Nat) : Int) by omega, atI_nat, List.getElem?_map, List.getElem?_eq_getElem h2]; rfl
      simp
      rw [w_one]
      simp [er, e1, e2]
      refine ⟨fun f => ?_, fun t => ⟨_, rfl, rfl, fun j l => ?_⟩⟩
      · refine fin false ?_
        rw [← Bool.not_eq_true]
        intro z
        unfold risT at z
        rw [List.all_eq_true] at z
        have := z i (List.mem_range.mpr hi)
        rw [List.getElem?_eq_getElem h1, List.getElem?_eq_getElem h2, Option.getD_some, Option.getD_some, f] at this
        cases this
      · by_cases e : j = i
        · subst e
          rw [List.getElem?_eq_getElem h1, List.getElem?_eq_getElem h2, Option.getD_some, Option.getD_some]
          exact t
        · exact al j (by omega)
    · intro σ h' z
      obtain ⟨o, rfl, rfl, al⟩ := z
      refine ⟨hc_nil, _, rfl, rfl, ?_⟩
      unfold risT
      rw [List.all_eq_true]
      exact fun j m => al j (List.mem_range.mp m)
  intro σ h' z
  obtain ⟨o, rfl, rfl, al⟩ := z
  simp
  exact fin true al
end LW

namespace LW
open MP PySem
/-! show_value -/
theorem tr_str (b : Bool) : lowT (if b then [84, 114, 117, 101] else [70, 97, 108, 115, 101]) = if b then tTrue else tFalse := by
  cases b
  · exact lowT_false
  · exact lowT_true
def ShSpec (n : Nat) : Prop := ∀ {K w : Nat} {h : Hm} {v : Vl}, n + 3 ≤ K → v.ok w n = true → nbV v = true → (shV v).length ≤ 9400000 → ∀ {Q : D → Hm → Prop}, Q (.str (shV v)) h → Sat (callF pgm.pg K if_show_value [v.enc] h) Q
theorem show_step {n : Nat} (sp : ShSpec n) : ShSpec (n + 1) := by
  intro K w h v hK ok nb l Q q
  obtain ⟨K, rfl⟩ : ∃ k, K = k + 1 := ⟨K - 1, by omega⟩
  refine sat_call (F := df_show_value.fd) rfl rfl ?_
  show Sat (evSs pgm.pg.G (callF pgm.pg K) bf_show_value (startE 3 [v.enc]) h) _
  unfold bf_show_value startE
  have fin : Over h h ∧ (D.str (shV v)).cl h.length = true ∧ Q (.str (shV v)) h := ⟨Over.refl, rfl, q⟩
  cases v with
  | tru b =>
    rw [w_cons]
    simp [Vl.enc, isTy]
    rw [w_one]
    simp
    refine ⟨rfl, m_lower (x := if b then [84, 114, 117, 101] else [70, 97, 108, 115, 101]) (by cases b <;> decide) ?_⟩
    rw [tr_str]
    exact fin
  | num i =>
    have hi : i.natAbs < 10 ^ 30 := of_decide_eq_true nb
    rw [w_cons]
    simp [Vl.enc, isTy]
    rw [w_cons]
    simp
    refine is_number (by omega) rfl ?_
    simp [isN]
    rw [w_one]
    simp
    exact ⟨log_ok hi, fin⟩
  | txt x =>
    rw [w_cons]
    simp [Vl.enc, isTy]
    rw [w_cons]
    simp
    refine is_number (by omega) rfl ?_
    simp [isN]
    rw [w_cons]
    simp [isTy]
    rw [w_one]
    simp
    have l2 : (34 :: (x ++ [34]) : Tx).length ≤ 9400000 := l
    simp at l2
    exact ⟨by show _ ≤ 16777216; omega, by show _ ≤ 16777216; omega, fin⟩
  | lst vs =>
    have tm : Tm h (Vl.lst vs).enc = true := Gv.tm ⟨_, rfl, ok⟩ h
    rw [Vl.ok] at ok
    simp at ok
    have c1 : copB .eq (.v (.str tList)) (.v (.str [108, 105, 115, 116])) h = some true := by rw [c_eqs rfl rfl]; rfl
    have e1 : isN (Vl.lst vs).enc = false := rfl
    have ts : isTy .tuple .str = false := rfl
    rw [w_cons]
    simp [Vl.enc, isTy]
    rw [w_cons]
    simp
    refine is_number (d := (Vl.lst vs).enc) (by omega) tm ?_
    rw [e1]
    simp
    rw [w_cons]
    simp [ts]
    rw [w_cons]
    simp [c1]
    rw [w_one]
    simp
    rw [Vls.encs_eq]
    have nbs := (nbVs_iff vs).mp nb
    have oks := Vls.ok_iff.mp ok.2
    have lj : (joinT tSep (shVs vs)).length + 2 ≤ 9400000 := by
      have l2 : (91 :: (joinT tSep (shVs vs) ++ [93]) : Tx).length ≤ 9400000 := l
      simp at l2
      omega
    have each : ∀ v ∈ vs.toL, (shV v).length ≤ 9400000 := fun v mv => by
      have : shV v ∈ shVs vs := by rw [shVs_eq]; exact List.mem_map.mpr ⟨v, mv, rfl⟩
      have := join_each (sep := tSep) this
      omega
    refine ⟨rfl, sat_compM vs.toL Vl.enc (fun v => D.str (shV v)) (fun v mv Q q => ?_) ?_⟩
    · rw [sat_step]
      simp
      exact sp (by omega) (oks v mv) (nbs v mv) (each v mv) q
    have em : (vs.toL.map fun v => D.str (shV v)) = (shVs vs).map D.str := by rw [shVs_eq, List.map_map]; rfl
    rw [em]
    show Sat (mthF .join (.v (.str tSep)) [.l ((shVs vs).map D.str)] h) _
    refine m_joinS (by show _ + 2 ≤ 16777216; omega) ?_
    simp
    exact ⟨by show _ ≤ 16777216; omega, by show _ ≤ 16777216; omega, fin⟩
  | rcd fs =>
    have tm : Tm h (Vl.rcd fs).enc = true := Gv.tm ⟨_, rfl, ok⟩ h
    rw [Vl.ok] at ok
    simp at ok
    have c1 : copB .eq (.v (.str tRec)) (.v (.str [108, 105, 115, 116])) h = some false := by rw [c_eqs rfl rfl]; rfl
    have e1 : isN (Vl.rcd fs).enc = false := rfl
    have ts : isTy .tuple .str = false := rfl
    rw [w_cons]
    simp [Vl.enc, isTy]
    rw [w_cons]
    simp
    refine is_number (d := (Vl.rcd fs).enc) (by omega) tm ?_
    rw [e1]
    simp
    rw [w_cons]
    simp [ts]
    rw [w_cons]
    simp [c1]
    rw [w_one]
    simp
    rw [Fls.encs_eq]
    have nbs := (nbFs_iff fs).mp nb
    have oks := Fls.ok_iff.mp ok.2
    have lj : (joinT tSep (shFs fs)).length + 2 ≤ 9400000 := by
      have l2 : (123 :: (joinT tSep (shFs fs) ++ [125]) : Tx).length ≤ 9400000 := l
      simp at l2
      omega
    have each : ∀ p ∈ fs.toL, (p.1 ++ [58, 32] ++ shV p.2).length ≤ 9400000 := fun p mp => by
      have : p.1 ++ [58, 32] ++ shV p.2 ∈ shFs fs := by rw [shFs_eq]; exact List.mem_map.mpr ⟨p, mp, rfl⟩
      have := join_each (sep := tSep) this
      omega
    refine ⟨rfl, sat_compM fs.toL (fun p => D.tup [.str p.1, p.2.enc]) (fun p => D.str (p.1 ++ [58, 32] ++ shV p.2)) (fun p mp Q q => ?_) ?_⟩
    · have lp := each p mp
      simp at lp
      rw [sat_step]
      simp [setSlots]
      refine ⟨by show _ ≤ 16777216; omega, ?_⟩
      refine sp (by omega) (oks p mp).2.2 (nbs p mp) (by omega) ?_
      rw [w_adds]
      refine ⟨?_, q⟩
      show _ ≤ 16777216
      rw [List.length_append]
      show p.1.length + 2 + _ ≤ _
      omega
    have em : (fs.toL.map fun p => D.str (p.1 ++ [58, 32] ++ shV p.2)) = (shFs fs).map D.str := by rw [shFs_eq, List.map_map]; rfl
    rw [em]
    show Sat (mthF .join (.v (.str tSep)) [.l ((shFs fs).map D.str)] h) _
    refine m_joinS (by show _ + 2 ≤ 16777216; omega) ?_
    simp
    exact ⟨by show _ ≤ 16777216; omega, by show _ ≤ 16777216; omega, fin⟩
theorem show_value : ∀ n : Nat, ShSpec n
  | 0 => fun _ ok _ _ _ _ => absurd (Vl.ok_pos ok) (Nat.lt_irrefl _)
  | n + 1 => show_step (show_value n)
end LW

namespace LW
open MP PySem
/-! law_written -/
def WrSpec (n : Nat) : Prop := ∀ {K w : Nat} {h : Hm} {v : Vl}, n + 3 ≤ K → v.ok w n = true → nbV v = true → (shV v).length ≤ 9400000 → ∀ {Q : D → Hm → Prop}, Q (.str (shV v)) h → Sat (callF pgm.pg K if_law_written [v.enc] h) Q
theorem written_step {n : Nat} (sp : WrSpec n) : WrSpec (n + 1) := by
  intro K w h v hK ok nb l Q q
  obtain ⟨K, rfl⟩ : ∃ k, K = k + 1 := ⟨K - 1, by omega⟩
  refine sat_call (F := df_law_written.fd) rfl rfl ?_
  show Sat (evSs pgm.pg.G (callF pgm.pg K) bf_law_written (startE 3 [v.enc]) h) _
  unfold bf_law_written startE
  have fin : Over h h ∧ (D.str (shV v)).cl h.length = true ∧ Q (.str (shV v)) h := ⟨Over.refl, rfl, q⟩
  cases v with
  | tru b =>
    rw [w_cons]
    simp [Vl.enc, isTy]
    rw [w_one]
    simp
    cases b
    · exact fin
    · exact fin
  | num i =>
    have hi : i.natAbs < 10 ^ 30 := of_decide_eq_true nb
    rw [w_cons]
    simp [Vl.enc, isTy]
    rw [w_cons]
    simp [isTy]
    rw [w_one]
    simp
    exact ⟨log_ok hi, fin⟩
  | txt x =>
    rw [w_cons]
    simp [Vl.enc, isTy]
    rw [w_cons]
    simp [isTy]
    rw [w_cons]
    simp [isTy]
    rw [w_one]
    simp
    have l2 : (34 :: (x ++ [34]) : Tx).length ≤ 9400000 := l
    simp at l2
    exact ⟨by show _ ≤ 16777216; omega, by show _ ≤ 16777216; omega, fin⟩
  | lst vs =>
    have tm : Tm h (Vl.lst vs).enc = true := Gv.tm ⟨_, rfl, ok⟩ h
    rw [Vl.ok] at ok
    simp at ok
    have c1 : copB .eq (.v (.str tList)) (.v (.str [108, 105, 115, 116])) h = some true := by rw [c_eqs rfl rfl]; rfl
    have e1 : isN (Vl.lst vs).enc = false := rfl
    have ts : isTy .tuple .str = false := rfl
    have ti : isTy .tuple .int = false := rfl
    rw [w_cons]
    simp [Vl.enc, isTy]
    rw [w_cons]
    simp [ti]
    rw [w_cons]
    simp [ts]
    rw [w_cons]
    simp [c1]
    rw [w_one]
    simp
    rw [Vls.encs_eq]
    have nbs := (nbVs_iff vs).mp nb
    have oks := Vls.ok_iff.mp ok.2
    have lj : (joinT tSep (shVs vs)).length + 2 ≤ 9400000 := by
      have l2 : (91 :: (joinT tSep (shVs vs) ++ [93]) : Tx).length ≤ 9400000 := l
      simp at l2
      omega
    have each : ∀ v ∈ vs.toL, (shV v).length ≤ 9400000 := fun v mv => by
      have : shV v ∈ shVs vs := by rw [shVs_eq]; exact List.mem_map.mpr ⟨v, mv, rfl⟩
      have := join_each (sep := tSep) this
      omega
    refine ⟨rfl, sat_compM vs.toL Vl.enc (fun v => D.str (shV v)) (fun v mv Q q => ?_) ?_⟩
    · rw [sat_step]
      simp
      exact sp (by omega) (oks v mv) (nbs v mv) (each v mv) q
    have em : (vs.toL.map fun v => D.str (shV v)) = (shVs vs).map D.str := by rw [shVs_eq, List.map_map]; rfl
    rw [em]
    show Sat (mthF .join (.v (.str tSep)) [.l ((shVs vs).map D.str)] h) _
    refine m_joinS (by show _ + 2 ≤ 16777216; omega) ?_
    simp
    exact ⟨by show _ ≤ 16777216; omega, by show _ ≤ 16777216; omega, fin⟩
  | rcd fs =>
    have tm : Tm h (Vl.rcd fs).enc = true := Gv.tm ⟨_, rfl, ok⟩ h
    rw [Vl.ok] at ok
    simp at ok
    have c1 : copB .eq (.v (.str tRec)) (.v (.str [108, 105, 115, 116])) h = some false := by rw [c_eqs rfl rfl]; rfl
    have e1 : isN (Vl.rcd fs).enc = false := rfl
    have ts : isTy .tuple .str = false := rfl
    have ti : isTy .tuple .int = false := rfl
    rw [w_cons]
    simp [Vl.enc, isTy]
    rw [w_cons]
    simp [ti]
    rw [w_cons]
    simp [ts]
    rw [w_cons]
    simp [c1]
    rw [w_one]
    simp
    rw [Fls.encs_eq]
    have nbs := (nbFs_iff fs).mp nb
    have oks := Fls.ok_iff.mp ok.2
    have lj : (joinT tSep (shFs fs)).length + 2 ≤ 9400000 := by
      have l2 : (123 :: (joinT tSep (shFs fs) ++ [125]) : Tx).length ≤ 9400000 := l
      simp at l2
      omega
    have each : ∀ p ∈ fs.toL, (p.1 ++ [58, 32] ++ shV p.2).length ≤ 9400000 := fun p mp => by
      have : p.1 ++ [58, 32] ++ shV p.2 ∈ shFs fs := by rw [shFs_eq]; exact List.mem_map.mpr ⟨p, mp, rfl⟩
      have := join_each (sep := tSep) this
      omega
    refine ⟨rfl, sat_compM fs.toL (fun p => D.tup [.str p.1, p.2.enc]) (fun p => D.str (p.1 ++ [58, 32] ++ shV p.2)) (fun p mp Q q => ?_) ?_⟩
    · have lp := each p mp
      simp at lp
      rw [sat_step]
      simp [setSlots]
      refine ⟨by show _ ≤ 16777216; omega, ?_⟩
      refine sp (by omega) (oks p mp).2.2 (nbs p mp) (by omega) ?_
      rw [w_adds]
      refine ⟨?_, q⟩
      show _ ≤ 16777216
      rw [List.length_append]
      show p.1.length + 2 + _ ≤ _
      omega
    have em : (fs.toL.map fun p => D.str (p.1 ++ [58, 32] ++ shV p.2)) = (shFs fs).map D.str := by rw [shFs_eq, List.map_map]; rfl
    rw [em]
    show Sat (mthF .join (.v (.str tSep)) [.l ((shFs fs).map D.str)] h) _
    refine m_joinS (by show _ + 2 ≤ 16777216; omega) ?_
    simp
    exact ⟨by show _ ≤ 16777216; omega, by show _ ≤ 16777216; omega, fin⟩
theorem law_written : ∀ n : Nat, WrSpec n
  | 0 => fun _ ok _ _ _ _ => absurd (Vl.ok_pos ok) (Nat.lt_irrefl _)
  | n + 1 => written_step (law_written n)
end LW

namespace LW
open MP PySem
/-! run_of: a run of signs -/
def stops (signs post : Tx) : Prop := ∀ c, post.head? = some c → c ∉ signs
theorem cut_mid {α : Type} {xs : List α} {a b : Nat} : cut xs (some (a : Int)) (some (b : Int)) = (xs.drop a).take (b - a) := by
  have s : ∀ (j d : Nat), sIx xs.length d (some (j : Int)) = min j xs.length := fun j d => by
    show (if (j : Int) < 0 then ((j : Int) + xs.length).toNat else min (j : Int).toNat xs.length) = _
    rw [if_neg (by omega)]
    rfl
  unfold cut
  rw [s, s]
  rcases Nat.le_total xs.length a with h | h
  · rw [List.drop_of_length_le (by omega), List.drop_of_length_le h]
    simp
  · rw [Nat.min_eq_left h]
    rcases Nat.le_total xs.length b with g | g
    · rw [Nat.min_eq_right g, List.take_of_length_le (by rw [List.length_drop]; exact Nat.le_refl _), List.take_of_length_le (by rw [List.length_drop]; omega)]
    · rw [Nat.min_eq_left g]
def RuI (text signs : Tx) (a : Nat) (mid : Tx) (h : Hm) (m : Nat) (σ : MP.Env) (h' : Hm) : Prop := h' = h ∧ ∃ j : Nat, j + m = mid.length ∧ σ = [some (.str text), some (.int (a : Nat)), some (.str signs), some (.int ((a + j : Nat) : Int))]
theorem run_of {K : Nat} {h : Hm} {pre mid post signs : Tx} (hK : 1 ≤ K) (hl : (pre ++ mid ++ post).length ≤ 16000000) (hm : ∀ c ∈ mid, c ∈ signs) (hp : stops signs post) {Q : D → Hm → Prop} (q : Q (.str mid) h) : Sat (callF pgm.pg K if_run_of [.str (pre ++ mid ++ post), .int (pre.length : Nat), .str signs] h) Q := by
  obtain ⟨K, rfl⟩ : ∃ k, K = k + 1 := ⟨K - 1, by omega⟩
  refine sat_call (F := df_run_of.fd) rfl rfl ?_
  show Sat (evSs pgm.pg.G (callF pgm.pg K) bf_run_of (startE 4 [.str (pre ++ mid ++ post), .int (pre.length : Nat), .str signs]) h) _
  unfold bf_run_of startE
  have el : (pre ++ mid ++ post).length = pre.length + mid.length + post.length := by simp; omega
  have at1 : ∀ j (hj : j < mid.length), (pre ++ mid ++ post)[pre.length + j]? = some mid[j] := fun j hj => by
    rw [List.append_assoc, List.getElem?_append_right (by omega), Nat.add_sub_cancel_left, List.getElem?_append_left hj, List.getElem?_eq_getElem hj]
  have at2 : (pre ++ mid ++ post)[pre.length + mid.length]? = post.head? := by
    rw [List.getElem?_append_right (by simp), List.length_append, Nat.sub_self, List.head?_eq_getElem?]
  have ct : cut (pre ++ mid ++ post) (some (pre.length : Int)) (some ((pre.length + mid.length : Nat) : Int)) = mid := by
    rw [cut_mid, List.append_assoc, List.drop_left, Nat.add_sub_cancel_left, List.take_left]
  generalize pre ++ mid ++ post = text at *
  rw [w_cons]
  simp
  refine sat_seq (RuI text signs pre.length mid h 0) ?_ ?_
  · simp
    refine sat_while (RuI text signs pre.length mid h) ?_ _ mid.length _ _ (by show _ < 10 ^ 200; omega) ⟨rfl, 0, by omega, rfl⟩
    intro m σ h' z
    obtain ⟨rfl, j, hj, rfl⟩ := z
    simp
    have ecast : ((pre.length : Int) + (j : Int)) = ((pre.length + j : Nat) : Int) := by omega
    have fin : j = mid.length → RuI text signs pre.length mid h' 0 [some (.str text), some (.int (pre.length : Nat)), some (.str signs), some (.int ((pre.length : Int) + (j : Int)))] h' := fun e => ⟨rfl, j, by omega, by rw [ecast]⟩
    refine ⟨by show _ ≤ 16777216; omega, fun lt => ⟨by show _ ≤ 16777216; omega, ?_⟩, fun ge => fin (by omega)⟩
    rw [ecast, atI_nat]
    have cin : ∀ c : Nat, copB .inn (.v (.str [c])) (.v (.str signs)) h' = some (decide (c ∈ signs)) := fun c => rfl
    by_cases hj2 : j < mid.length
    · rw [at1 j hj2]
      simp [cin, hm _ (List.getElem_mem hj2)]
      rw [w_one]
      refine sat_augA (i := ((pre.length : Int) + (j : Int))) rfl ?_
      simp
      exact ⟨m - 1, by omega, rfl, j + 1, by omega, by simp; omega⟩
    · have : j = mid.length := by omega
      rw [this, at2]
      cases ep : post.head? with
      | none =>
        have : post = [] := List.head?_eq_none_iff.mp ep
        rw [this] at el
        simp at el
        omega
      | some c =>
        simp [cin, hp c ep]
        rw [← this]
        exact fin this
  intro σ h' z
  obtain ⟨rfl, j, hj, rfl⟩ := z
  have : j = mid.length := by omega
  subst this
  rw [w_one]
  simp
  have ecast : ((pre.length : Int) + (mid.length : Int)) = ((pre.length + mid.length : Nat) : Int) := by omega
  rw [ecast, ct]
  exact ⟨by show _ ≤ 16777216; omega, Over.refl, rfl, q⟩
end LW

namespace LW
open MP PySem
/-! number_at -/
def figs : Tx := [48, 49, 50, 51, 52, 53, 54, 55, 56, 57]
theorem G_figs : pgm.pg.G g_FIGURES = .str figs := rfl
theorem G_most : pgm.pg.G g_MOST_FIGURES = .int 40 := rfl
theorem mem_figs {c : Nat} : c ∈ figs ↔ 48 ≤ c ∧ c ≤ 57 := by
  unfold figs
  simp
  omega
theorem numT_parts (i : Int) : ∃ (s : Bool) (fig : Tx), numT i = (if s then [45] else []) ++ fig ∧ fig ≠ [] ∧ (∀ c ∈ fig, c ∈ figs) := by
  rcases numT_cases i with ⟨_, e⟩ | ⟨_, e⟩
  · exact ⟨false, _, e, TL.numL_ne _, fun c m => mem_figs.mpr (numL_az m)⟩
  · exact ⟨true, _, e, TL.numL_ne _, fun c m => mem_figs.mpr (numL_az m)⟩
theorem number_at {K : Nat} {h : Hm} {pre post : Tx} {i : Int} (hK : 2 ≤ K) (hl : (pre ++ numT i ++ post).length ≤ 16000000) (hi : i.natAbs < 10 ^ 30) (hp : stops figs post) {Q : D → Hm → Prop} (q : Q (.tup [.int i, .int ((pre.length + (numT i).length : Nat) : Int)]) h) : Sat (callF pgm.pg K if_number_at [.str (pre ++ numT i ++ post), .int (pre.length : Nat)] h) Q := by
  obtain ⟨K, rfl⟩ : ∃ k, K = k + 1 := ⟨K - 1, by omega⟩
  refine sat_call (F := df_number_at.fd) rfl rfl ?_
  show Sat (evSs pgm.pg.G (callF pgm.pg K) bf_number_at (startE 5 [.str (pre ++ numT i ++ post), .int (pre.length : Nat)]) h) _
  unfold bf_number_at startE
  have l31 := numT_len (k := 30) (by decide) hi
  have ri := int_numT (i := i) (by omega)
  obtain ⟨s, fig, en, ne, af⟩ := numT_parts i
  have asc : isAscii (numT i) = true := by
    rw [en]
    unfold isAscii
    rw [List.all_append, Bool.and_eq_true, List.all_eq_true, List.all_eq_true]
    refine ⟨fun c m => ?_, fun c m => decide_eq_true (by have := mem_figs.mp (af c m); omega)⟩
    cases s with
    | false => cases m
    | true => rw [List.mem_singleton.mp m]; rfl
  have ascf : isAscii fig = true := by
    unfold isAscii
    rw [List.all_eq_true]
    exact fun c m => decide_eq_true (by have := mem_figs.mp (af c m); omega)
  obtain ⟨c0, f0, ef⟩ : ∃ c f, fig = c :: f := by
    cases fig with
    | nil => exact absurd rfl ne
    | cons c f => exact ⟨c, f, rfl⟩
  have hc0 : c0 ≠ 45 := by
    have := mem_figs.mp (af c0 (by rw [ef]; exact List.mem_cons_self))
    omega
  have ct : cut (pre ++ numT i ++ post) (some (pre.length : Int)) (some ((pre.length : Int) + 1)) = [if s then 45 else c0] := by
    rw [show (pre.length : Int) + 1 = ((pre.length + 1 : Nat) : Int) by omega, cut_mid, List.append_assoc, List.drop_left, Nat.add_sub_cancel_left, en, ef]
    cases s <;> rfl
  have ce : copB .eq (.v (.str [if s then 45 else c0])) (.v (.str [45])) h = some s := by
    rw [c_eqs (by cases s with | true => rfl | false => exact (by unfold isAscii; simp; have := mem_figs.mp (af c0 (by rw [ef]; exact List.mem_cons_self)); omega)) rfl]
    cases s with
    | true => rfl
    | false => simp; exact hc0
  have lt : (pre ++ numT i ++ post).length ≤ SL := by show _ ≤ 16777216; omega
  have et : pre ++ numT i ++ post = (pre ++ (if s then [45] else [])) ++ fig ++ post := by rw [en]; simp
  have el2 : (pre ++ (if s then [45] else []) : Tx).length = pre.length + (b2i s).toNat := by cases s <;> simp [b2i]
  have ea : (pre.length : Int) + b2i s = (((pre ++ (if s then [45] else []) : Tx).length : Nat) : Int) := by rw [el2]; cases s <;> simp [b2i]
  have ro : ∀ {Q : D → Hm → Prop}, Q (.str fig) h → Sat (callF pgm.pg K if_run_of [.str (pre ++ numT i ++ post), .int ((pre.length : Int) + b2i s), .str figs] h) Q := fun q => by
    rw [ea]
    rw [et] at hl ⊢
    exact run_of (by omega) hl af hp q
  clear el2 ea et hl
  generalize pre ++ numT i ++ post = text at *
  have er : rep [45] (b2i s).toNat ++ fig = numT i := by rw [en]; cases s <;> rfl
  have lr : (rep [45] (b2i s).toNat).length ≤ 1 := by cases s <;> decide
  have cf : copB .eq (.v (.str fig)) (.v (.str [])) h = some false := by
    rw [c_eqs ascf rfl, ef]; simp
  have lf : fig.length ≤ 31 := by rw [← er] at l31; simp at l31; omega
  have cn : copB .ne (.v (.str (numT i))) (.v (.str (numT i))) h = some false := by rw [c_nes asc asc]; simp
  rw [w_cons]
  simp [ct, ce, lt]
  rw [w_cons]
  simp [G_figs]
  refine ro ?_
  rw [w_cons]
  simp [er]
  refine ⟨by cases s <;> decide, by show _ ≤ 16777216; omega, ?_⟩
  rw [w_cons]
  have lfs : fig.length ≤ SL := by show _ ≤ 16777216; omega
  have lns : (numT i).length ≤ SL := by show _ ≤ 16777216; omega
  simp [cf, G_most, lfs]
  refine ⟨fun g => absurd g (by omega), fun _ => ?_⟩
  refine b_intS ri (by omega) ?_
  simp [cn]
  refine ⟨log_ok hi, ?_⟩
  rw [w_one]
  simp
  refine b_intS ri (by omega) ?_
  simp [lns]
  exact ⟨Over.refl, rfl, by simpa using q⟩
end LW

namespace LW
open MP PySem
/-! value_at: lists -/
def lets : Tx := [97, 98, 99, 100, 101, 102, 103, 104, 105, 106, 107, 108, 109, 110, 111, 112, 113, 114, 115, 116, 117, 118, 119, 120, 121, 122]
/-- what may stand behind a value -/
def ends (post : Tx) : Prop := stops figs post ∧ stops lets post
theorem ends_c {c : Nat} {post : Tx} (h : c = 93 ∨ c = 125 ∨ c = 44) : ends (c :: post) := by
  constructor
  · intro d e
    have e : c = d := Option.some.inj e
    subst e
    rcases h with rfl | rfl | rfl <;> decide
  · intro d e
    have e : c = d := Option.some.inj e
    subst e
    rcases h with rfl | rfl | rfl <;> decide
/-! record names rising, none empty -/
mutual
def rsV : Vl → Bool
  | .num _ => true
  | .txt _ => true
  | .tru _ => true
  | .lst vs => rsVs vs
  | .rcd fs => rsFs fs && (risT (fs.toL.map (·.1)) && fs.toL.all fun p => !p.1.isEmpty)
def rsVs : Vls → Bool
  | .nil => true
  | .cons v r => rsV v && rsVs r
def rsFs : Fls → Bool
  | .nil => true
  | .cons _ v r => rsV v && rsFs r
end
theorem rsVs_iff : ∀ vs : Vls, rsVs vs = true ↔ ∀ v ∈ vs.toL, rsV v = true
  | .nil => by simp [rsVs, Vls.toL]
  | .cons v r => by rw [rsVs, Bool.and_eq_true, rsVs_iff r, Vls.toL]; simp
theorem rsFs_iff : ∀ vs : Fls, rsFs vs = true ↔ ∀ p ∈ vs.toL, rsV p.2 = true
  | .nil => by simp [rsFs, Fls.toL]
  | .cons x v r => by
    rw [rsFs, Bool.and_eq_true, rsFs_iff r, Fls.toL]
    constructor
    · rintro ⟨a, b⟩ p m
      rcases List.mem_cons.mp m with z | z
      · rw [z]; exact a
      · exact b p z
    · exact fun h => ⟨h (x, v) List.mem_cons_self, fun p m => h p (List.mem_cons_of_mem _ m)⟩
def VaSpec (n : Nat) : Prop := ∀ {K w deep : Nat} {h : Hm} {pre post : Tx} {v : Vl}, 2 * n + 3 ≤ K → v.ok w n = true → w ≤ 900 → nbV v = true → rsV v = true → deep + n ≤ 21 → (pre ++ shV v ++ post).length ≤ 16000000 → ends post → ∀ {Q : D → Hm → Prop}, Q (.tup [v.enc, .int ((pre.length + (shV v).length : Nat) : Int)]) h → Sat (callF pgm.pg K if_value_at [.str (pre ++ shV v ++ post), .int (pre.length : Nat), .int (deep : Nat)] h) Q
theorem va_at {n : Nat} (sp : VaSpec n) {K w deep : Nat} {h : Hm} {text pre post : Tx} {v : Vl} (et : text = pre ++ shV v ++ post) (hK : 2 * n + 3 ≤ K) (ok : v.ok w n = true) (hw : w ≤ 900) (nb : nbV v = true) (rs : rsV v = true) (hd : deep + n ≤ 21) (hl : text.length ≤ 16000000) (en : ends post) {Q : D → Hm → Prop} (q : Q (.tup [v.enc, .int ((pre.length + (shV v).length : Nat) : Int)]) h) : Sat (callF pgm.pg K if_value_at [.str text, .int (pre.length : Nat), .int (deep : Nat)] h) Q := by
  subst et
  exact sp hK ok hw nb rs hd hl en q
theorem over_setL {h0 h' : Hm} {m : Nat} {o : O} (ov : Over h0 h') (hm : h0.length ≤ m) : Over h0 (h'.set m o) := by
  refine ⟨by rw [List.length_set]; exact ov.1, ?_⟩
  rw [List.take_set_of_le hm]
  exact ov.2
theorem cut_one {α : Type} {xs pre post : List α} (e : xs = pre ++ post) (k : Nat) : cut xs (some (pre.length : Int)) (some ((pre.length : Int) + (k : Nat))) = post.take k := by
  rw [show (pre.length : Int) + (k : Nat) = ((pre.length + k : Nat) : Int) by omega, cut_mid, e, List.drop_left, Nat.add_sub_cancel_left]
theorem c_eqt {h : Hm} {x y : Tx} (ax : isAscii x = true) (ay : isAscii y = true) : copB .eq (.v (.str x)) (.v (.str y)) h = some (decide (x = y)) := c_eqs ax ay
def LaI (text : Tx) (a deep : Nat) (vs : List Vl) (post : Tx) (h0 : Hm) (m : Nat) (σ : MP.Env) (h : Hm) : Prop := Over h0 h ∧ ∃ (done todo : List Vl) (P : Tx) (o5 : Option D), vs = done ++ todo ∧ todo ≠ [] ∧ todo.length = m ∧ text = P ++ (joinT tSep (todo.map shV) ++ 93 :: post) ∧ MP.hAt h h0.length = some (.lst (done.map Vl.enc)) ∧ σ = [some (.str text), some (.int (a : Nat)), some (.int (deep : Nat)), some (.ref h0.length), some (.int (P.length : Nat)), o5]
theorem join_head {x : Tx} {r : List Tx} {c : Nat} {y : Tx} (e : x = c :: y) : ∃ z, joinT tSep (x :: r) = c :: z := by
  cases r with
  | nil => exact ⟨y, e⟩
  | cons w r => exact ⟨y ++ tSep ++ joinT tSep (w :: r), by rw [joinT_cons, e]; simp⟩
theorem sh_head (v : Vl) : ∃ c y, shV v = c :: y ∧ c < 128 ∧ c ≠ 93 ∧ c ≠ 125 := by
  cases v with
  | num i =>
    obtain ⟨s, fig, en, ne, af⟩ := numT_parts i
    show ∃ c y, numT i = c :: y ∧ _
    rw [en]
    cases s with
    | true => exact ⟨45, fig, rfl, by decide, by decide, by decide⟩
    | false =>
      cases fig with
      | nil => exact absurd rfl ne
      | cons c f =>
        have := mem_figs.mp (af c List.mem_cons_self)
        exact ⟨c, f, rfl, by omega, by omega, by omega⟩
  | txt x => exact ⟨34, x ++ [34], rfl, by decide, by decide, by decide⟩
  | tru b => cases b <;> exact ⟨_, _, rfl, by decide, by decide, by decide⟩
  | lst vs => exact ⟨91, _, rfl, by decide, by decide, by decide⟩
  | rcd fs => exact ⟨123, _, rfl, by decide, by decide, by decide⟩
theorem list_at {n : Nat} (sp : VaSpec n) {K w deep : Nat} {h : Hm} {pre post : Tx} {vs : Vls} (hK : 2 * n + 4 ≤ K) (ok : ∀ v ∈ vs.toL, v.ok w n = true) (hw : w ≤ 900) (lw : vs.toL.length ≤ 1000) (nb : ∀ v ∈ vs.toL, nbV v = true) (rs : ∀ v ∈ vs.toL, rsV v = true) (hd : deep + n ≤ 20) (hl : (pre ++ shV (.lst vs) ++ post).length ≤ 16000000) {Q : D → Hm → Prop} (q : Q (.tup [(Vl.lst vs).enc, .int ((pre.length + (shV (.lst vs)).length : Nat) : Int)]) h) : Sat (callF pgm.pg K if_list_at [.str (pre ++ shV (.lst vs) ++ post), .int (pre.length : Nat), .int (deep : Nat)] h) Q := by
  obtain ⟨K, rfl⟩ : ∃ k, K = k + 1 := ⟨K - 1, by omega⟩
  refine sat_call (F := df_list_at.fd) rfl rfl ?_
  show Sat (evSs pgm.pg.G (callF pgm.pg K) bf_list_at (startE 6 [.str (pre ++ shV (.lst vs) ++ post), .int (pre.length : Nat), .int (deep : Nat)]) h) _
  unfold bf_list_at startE
  have es : shV (.lst vs) = 91 :: (joinT tSep (shVs vs) ++ [93]) := by rw [shV]
  have et : pre ++ shV (.lst vs) ++ post = (pre ++ [91]) ++ (joinT tSep (vs.toL.map shV) ++ 93 :: post) := by rw [es, shVs_eq]; simp
  have ecl : ((pre.length + (shV (.lst vs)).length : Nat) : Int) = ((pre ++ [91]).length : Nat) + ((joinT tSep (vs.toL.map shV)).length : Nat) + 1 := by rw [es, shVs_eq]; simp; omega
  have ee : (Vl.lst vs).enc = .tup [.str [108, 105, 115, 116], .tup (vs.toL.map Vl.enc)] := by rw [Vl.enc, Vls.encs_eq]; rfl
  have ecv : ∀ m, (Vl.lst vs).enc.cl m = true := fun m => Gv.cl (n := n + 1) (w := max w 1000) ⟨_, rfl, by rw [Vl.ok]; simp; exact ⟨by omega, Vls.ok_iff.mpr fun v mv => Vl.ok_up (by omega) (Nat.le_refl _) (ok v mv)⟩⟩ m
  rw [ecl, ee] at q
  rw [ee] at ecv
  generalize pre ++ shV (.lst vs) ++ post = text at *
  generalize vs.toL = L at *
  clear es ecl ee
  have lt : text.length ≤ SL := by show _ ≤ 16777216; omega
  rw [w_cons]
  simp
  have e0 : MP.hAt (h ++ [O.lst []]) h.length = some (.lst (([] : List Vl).map Vl.enc)) := hAt_last
  have ov0 : Over h (h ++ [O.lst []]) := Over.app
  generalize h ++ [O.lst []] = h1 at *
  have ep : ((pre.length : Int) + 1) = ((pre ++ [91] : Tx).length : Nat) := by simp
  rw [w_cons]
  simp
  rw [ep]
  generalize pre ++ [91] = P at *
  have cone : ∀ (P R : Tx) (c : Nat) (h : Hm), c < 128 → text = P ++ c :: R → copB .eq (.v (.str (cut text (some (P.length : Int)) (some ((P.length : Int) + 1))))) (.v (.str [93])) h = some (decide (c = 93)) := fun P R c h hc e => by
    have : cut text (some (P.length : Int)) (some ((P.length : Int) + 1)) = [c] := cut_one e 1
    rw [this, c_eqs (by unfold isAscii; simp; exact hc) rfl]
    congr 1
    simp
  rw [w_cons]
  cases L with
  | nil =>
    have et2 : text = P ++ 93 :: post := by rw [et]; rfl
    simp [lt, cone P post 93 h1 (by decide) et2]
    rw [w_one]
    simp
    refine ⟨ov0, ?_, ?_⟩
    · exact ecv _
    · simpa [joinT] using q
  | cons v0 L =>
  obtain ⟨c, y, ec, hc, n93, n125⟩ := sh_head v0
  obtain ⟨z, ez⟩ := join_head (r := L.map shV) ec
  have et2 : text = P ++ c :: (z ++ 93 :: post) := by rw [et, List.map_cons, ez]; simp
  simp [lt, cone P _ c h1 hc et2, n93]
  have ez : joinT tSep ((v0 :: L).map shV) = c :: z := ez
  have lenL : (v0 :: L).length ≤ 1000 := lw
  have neM : v0 :: L ≠ [] := by simp
  clear ec et2
  generalize v0 :: L = M at *
  rw [w_one]
  simp
  refine sat_while (LaI text pre.length deep M post h) ?_ _ M.length _ _ (by show _ < 10 ^ 200; omega) ⟨ov0, [], M, P, _, rfl, neM, rfl, et, e0, rfl⟩
  intro m σ h' zz
  obtain ⟨ov, done, todo, P2, o5, eM, neT, lT, et3, e3, rfl⟩ := zz
  simp
  rw [w_cons]
  simp
  cases todo with
  | nil => exact absurd rfl neT
  | cons v r =>
  have mv : v ∈ M := by rw [eM]; exact List.mem_append_right _ List.mem_cons_self
  have ed : ((deep : Int) + 1) = ((deep + 1 : Nat) : Int) := by omega
  rw [ed]
  have ln : done.length < 1000 := by
    have := congrArg List.length eM
    simp at this
    omega
  cases r with
  | nil =>
    have et4 : text = P2 ++ shV v ++ 93 :: post := by rw [et3]; simp [joinT]
    refine va_at sp et4 (by omega) (ok v mv) hw (nb v mv) (rs v mv) (by omega) hl (ends_c (.inl rfl)) ?_
    simp [setSlots]
    have e6 : ((P2.length : Int) + ((shV v).length : Int)) = ((P2 ++ shV v : Tx).length : Nat) := by simp
    rw [e6]
    generalize P2 ++ shV v = P3 at *
    rw [w_cons]
    simp [e3]
    refine ⟨by show done.length < 16777216; omega, ?_⟩
    have e7 : MP.hAt (h'.set h.length (.lst (done.map Vl.enc ++ [v.enc]))) h.length = some (.lst ((done ++ [v]).map Vl.enc)) := by rw [hAt_set (hAt_lt e3)]; simp
    have ov7 : Over h (h'.set h.length (.lst (done.map Vl.enc ++ [v.enc]))) := over_setL ov (Nat.le_refl _)
    generalize h'.set h.length (.lst (done.map Vl.enc ++ [v.enc])) = h3 at *
    rw [w_cons]
    simp [lt, cone P3 post 93 h3 (by decide) et4]
    rw [w_one]
    simp [e7]
    have lP : P3.length = P.length + (joinT tSep (M.map shV)).length := by
      have a := congrArg List.length et
      have b := congrArg List.length et4
      simp at a b
      omega
    have q2 : Q (.tup [.tup [.str [108, 105, 115, 116], .tup (M.map Vl.enc)], .int ((P3.length : Int) + 1)]) h := by
      rw [lP]
      simpa using q
    rw [show done.map Vl.enc ++ [v.enc] = M.map Vl.enc by rw [eM]; simp]
    exact ⟨ov7, by rw [D.cl, D.cls, ecv]; rfl, q2⟩
  | cons v2 r =>
    have et4 : text = P2 ++ shV v ++ (tSep ++ (joinT tSep ((v2 :: r).map shV) ++ 93 :: post)) := by rw [et3, List.map_cons, List.map_cons, joinT_cons]; simp
    refine va_at sp et4 (by omega) (ok v mv) hw (nb v mv) (rs v mv) (by omega) hl (ends_c (.inr (.inr rfl))) ?_
    simp [setSlots]
    have e6 : ((P2.length : Int) + ((shV v).length : Int)) = ((P2 ++ shV v : Tx).length : Nat) := by simp
    rw [e6]
    generalize P2 ++ shV v = P3 at *
    rw [w_cons]
    simp [e3]
    refine ⟨by show done.length < 16777216; omega, ?_⟩
    have e7 : MP.hAt (h'.set h.length (.lst (done.map Vl.enc ++ [v.enc]))) h.length = some (.lst ((done ++ [v]).map Vl.enc)) := by rw [hAt_set (hAt_lt e3)]; simp
    have ov7 : Over h (h'.set h.length (.lst (done.map Vl.enc ++ [v.enc]))) := over_setL ov (Nat.le_refl _)
    generalize h'.set h.length (.lst (done.map Vl.enc ++ [v.enc])) = h3 at *
    rw [w_cons]
    have et5 : text = P3 ++ 44 :: (32 :: (joinT tSep ((v2 :: r).map shV) ++ 93 :: post)) := et4
    simp [lt, cone P3 _ 44 h3 (by decide) et5]
    rw [w_cons]
    have c2 : cut text (some (P3.length : Int)) (some ((P3.length : Int) + 2)) = [44, 32] := cut_one et5 2
    have cn : copB .ne (.v (.str [44, 32])) (.v (.str [44, 32])) h3 = some false := by rw [c_nes rfl rfl]; rfl
    simp [lt, c2, cn]
    rw [w_one]
    refine sat_augA (i := (P3.length : Int)) rfl ?_
    simp
    refine ⟨m - 1, by simp at lT; omega, ov7, done ++ [v], v2 :: r, P3 ++ tSep, some v.enc, by rw [eM]; simp, by simp, by simp at lT ⊢; omega, by rw [et4]; simp, e7, by simp [tSep]⟩
end LW

namespace LW
open MP PySem
/-! value_at: records -/
theorem G_lets : pgm.pg.G g_LETTERS = .str lets := rfl
def fdT (p : Tx × Vl) : Tx := p.1 ++ [58, 32] ++ shV p.2
def fdE (p : Tx × Vl) : D := .tup [.str p.1, p.2.enc]
theorem fd_head (p : Tx × Vl) (ne : p.1 ≠ []) (az : isAz p.1 = true) : ∃ c y, fdT p = c :: y ∧ c < 128 ∧ c ≠ 125 := by
  obtain ⟨x, v⟩ := p
  cases x with
  | nil => exact absurd rfl ne
  | cons c x =>
    have : 97 ≤ c ∧ c ≤ 122 := by
      have az : (c :: x).all (fun c => decide (97 ≤ c) && decide (c ≤ 122)) = true := az
      rw [List.all_cons, Bool.and_eq_true, Bool.and_eq_true] at az
      exact ⟨of_decide_eq_true az.1.1, of_decide_eq_true az.1.2⟩
    exact ⟨c, _, rfl, by omega, by omega⟩
theorem az_lets {x : Tx} (az : isAz x = true) : ∀ c ∈ x, c ∈ lets := fun c m => by
  have az : x.all (fun c => decide (97 ≤ c) && decide (c ≤ 122)) = true := az
  have := List.all_eq_true.mp az c m
  rw [Bool.and_eq_true] at this
  have a := of_decide_eq_true this.1
  have b := of_decide_eq_true this.2
  unfold lets
  simp
  omega
def RaI (text : Tx) (a deep : Nat) (vs : List (Tx × Vl)) (post : Tx) (h0 : Hm) (m : Nat) (σ : MP.Env) (h : Hm) : Prop := Over h0 h ∧ ∃ (done todo : List (Tx × Vl)) (P : Tx) (o5 o6 : Option D), vs = done ++ todo ∧ todo ≠ [] ∧ todo.length = m ∧ text = P ++ (joinT tSep (todo.map fdT) ++ 125 :: post) ∧ MP.hAt h h0.length = some (.lst (done.map fdE)) ∧ σ = [some (.str text), some (.int (a : Nat)), some (.int (deep : Nat)), some (.ref h0.length), some (.int (P.length : Nat)), o5, o6, none]
theorem record_at {n : Nat} (sp : VaSpec n) {K w deep : Nat} {h : Hm} {pre post : Tx} {fs : Fls} (hK : 2 * n + 4 ≤ K) (ok : ∀ p ∈ fs.toL, isAz p.1 = true ∧ p.1.length ≤ 900 ∧ p.2.ok w n = true) (hw : w ≤ 900) (lw : fs.toL.length ≤ 900) (nb : ∀ p ∈ fs.toL, nbV p.2 = true) (rs : ∀ p ∈ fs.toL, rsV p.2 = true) (ne : ∀ p ∈ fs.toL, p.1 ≠ []) (ri : risT (fs.toL.map (·.1)) = true) (hd : deep + n ≤ 20) (hl : (pre ++ shV (.rcd fs) ++ post).length ≤ 16000000) (ecv : ∀ m, (Vl.rcd fs).enc.cl m = true) {Q : D → Hm → Prop} (q : Q (.tup [(Vl.rcd fs).enc, .int ((pre.length + (shV (.rcd fs)).length : Nat) : Int)]) h) : Sat (callF pgm.pg K if_record_at [.str (pre ++ shV (.rcd fs) ++ post), .int (pre.length : Nat), .int (deep : Nat)] h) Q := by
  obtain ⟨K, rfl⟩ : ∃ k, K = k + 1 := ⟨K - 1, by omega⟩
  refine sat_call (F := df_record_at.fd) rfl rfl ?_
  show Sat (evSs pgm.pg.G (callF pgm.pg K) bf_record_at (startE 8 [.str (pre ++ shV (.rcd fs) ++ post), .int (pre.length : Nat), .int (deep : Nat)]) h) _
  unfold bf_record_at startE
  have es : shV (.rcd fs) = 123 :: (joinT tSep (shFs fs) ++ [125]) := by rw [shV]
  have et : pre ++ shV (.rcd fs) ++ post = (pre ++ [123]) ++ (joinT tSep (fs.toL.map fdT) ++ 125 :: post) := by rw [es, shFs_eq, show (fs.toL.map fun p => p.1 ++ [58, 32] ++ shV p.2) = fs.toL.map fdT from rfl]; simp
  have ecl : ((pre.length + (shV (.rcd fs)).length : Nat) : Int) = ((pre ++ [123]).length : Nat) + ((joinT tSep (fs.toL.map fdT)).length : Nat) + 1 := by rw [es, shFs_eq, show (fs.toL.map fun p => p.1 ++ [58, 32] ++ shV p.2) = fs.toL.map fdT from rfl]; simp; omega
  have ee : (Vl.rcd fs).enc = .tup [.str [114, 101, 99, 111, 114, 100], .tup (fs.toL.map fdE)] := by rw [Vl.enc, Fls.encs_eq]; rfl
  rw [ecl, ee] at q
  rw [ee] at ecv
  generalize pre ++ shV (.rcd fs) ++ post = text at *
  generalize fs.toL = L at *
  clear es ecl ee
  have lt : text.length ≤ SL := by show _ ≤ 16777216; omega
  rw [w_cons]
  simp
  have e0 : MP.hAt (h ++ [O.lst []]) h.length = some (.lst (([] : List (Tx × Vl)).map fdE)) := hAt_last
  have ov0 : Over h (h ++ [O.lst []]) := Over.app
  generalize h ++ [O.lst []] = h1 at *
  have ep : ((pre.length : Int) + 1) = ((pre ++ [123] : Tx).length : Nat) := by simp
  rw [w_cons]
  simp
  rw [ep]
  generalize pre ++ [123] = P at *
  have cone : ∀ (P R : Tx) (c : Nat) (h : Hm), c < 128 → text = P ++ c :: R → copB .eq (.v (.str (cut text (some (P.length : Int)) (some ((P.length : Int) + 1))))) (.v (.str [125])) h = some (decide (c = 125)) := fun P R c h hc e => by
    have : cut text (some (P.length : Int)) (some ((P.length : Int) + 1)) = [c] := cut_one e 1
    rw [this, c_eqs (by unfold isAscii; simp; exact hc) rfl]
    congr 1
    simp
  rw [w_cons]
  cases L with
  | nil =>
    have et2 : text = P ++ 125 :: post := by rw [et]; rfl
    simp [lt, cone P post 125 h1 (by decide) et2]
    rw [w_one]
    simp
    refine ⟨ov0, ?_, ?_⟩
    · exact ecv _
    · simpa [joinT] using q
  | cons v0 L =>
  obtain ⟨c, y, ec, hc, n125⟩ := fd_head v0 (ne v0 List.mem_cons_self) (ok v0 List.mem_cons_self).1
  obtain ⟨z, ez⟩ := join_head (r := L.map fdT) ec
  have et2 : text = P ++ c :: (z ++ 125 :: post) := by rw [et, List.map_cons, ez]; simp
  simp [lt, cone P _ c h1 hc et2, n125]
  have lenL : (v0 :: L).length ≤ 1000 := by omega
  have neM : v0 :: L ≠ [] := by simp
  clear ec et2 ez
  generalize v0 :: L = M at *
  rw [w_one]
  simp
  refine sat_while (RaI text pre.length deep M post h) ?_ _ M.length _ _ (by show _ < 10 ^ 200; omega) ⟨ov0, [], M, P, _, _, rfl, neM, rfl, et, e0, rfl⟩
  intro m σ h' zz
  obtain ⟨ov, done, todo, P2, o5, o6, eM, neT, lT, et3, e3, rfl⟩ := zz
  simp
  cases todo with
  | nil => exact absurd rfl neT
  | cons p r =>
  have mv : p ∈ M := by rw [eM]; exact List.mem_append_right _ List.mem_cons_self
  obtain ⟨az, l9, okp⟩ := ok p mv
  obtain ⟨rest, erest⟩ : ∃ rest : Tx, text = P2 ++ p.1 ++ 58 :: 32 :: rest := by
    cases r with
    | nil => exact ⟨shV p.2 ++ 125 :: post, by rw [et3]; simp [joinT, fdT]⟩
    | cons p2 r => exact ⟨shV p.2 ++ (tSep ++ (joinT tSep ((p2 :: r).map fdT) ++ 125 :: post)), by rw [et3, List.map_cons, List.map_cons, joinT_cons]; simp [fdT]⟩
  have ro : ∀ {Q : D → Hm → Prop}, Q (.str p.1) h' → Sat (callF pgm.pg K if_run_of [.str text, .int (P2.length : Nat), .str lets] h') Q := fun q => by
    rw [erest] at hl ⊢
    refine run_of (by omega) hl (az_lets az) ?_ q
    intro c e
    have e : 58 = c := Option.some.inj e
    subst e
    decide
  rw [w_cons]
  simp [G_lets]
  refine ro ?_
  have lname : p.1.length ≤ SL := by show _ ≤ 16777216; omega
  rw [w_cons]
  refine sat_augA (i := (P2.length : Int)) rfl ?_
  simp [lname]
  have e6 : ((P2.length : Int) + (p.1.length : Int)) = ((P2 ++ p.1 : Tx).length : Nat) := by simp
  rw [e6]
  obtain ⟨tail, et8, en, t1, t2⟩ : ∃ tail : Tx, text = P2 ++ (fdT p ++ tail) ∧ ends tail ∧ (r = [] → tail = 125 :: post) ∧ ∀ p2 r', r = p2 :: r' → tail = tSep ++ (joinT tSep ((p2 :: r').map fdT) ++ 125 :: post) := by
    cases r with
    | nil => exact ⟨125 :: post, by rw [et3]; simp [joinT], ends_c (.inr (.inl rfl)), fun _ => rfl, fun _ _ e => by cases e⟩
    | cons p2 r => exact ⟨tSep ++ (joinT tSep ((p2 :: r).map fdT) ++ 125 :: post), by rw [et3, List.map_cons, List.map_cons, joinT_cons]; simp, ends_c (.inr (.inr rfl)), (fun e => by cases e), fun _ _ e => by cases e; rfl⟩
  have et9 : text = (P2 ++ p.1) ++ ([58, 32] ++ (shV p.2 ++ tail)) := by rw [et8]; simp [fdT]
  clear ro erest et3 et8 e6
  generalize P2 ++ p.1 = P3 at *
  have c2 : cut text (some (P3.length : Int)) (some ((P3.length : Int) + 2)) = [58, 32] := cut_one et9 2
  have cn : copB .ne (.v (.str [58, 32])) (.v (.str [58, 32])) h' = some false := by rw [c_nes rfl rfl]; rfl
  rw [w_cons]
  simp
  refine is_name (n := 1) (d := .str p.1) (by omega) rfl (by show (isAscii p.1 && decide (p.1.length ≤ 1000)) = true; rw [az_ascii az, decide_eq_true (by omega)]; rfl) ?_
  have nm : isNm (.str p.1) = true := by
    show (isAz p.1 && !p.1.isEmpty) = true
    rw [az]
    cases ex : p.1 with
    | nil => exact absurd ex (ne p mv)
    | cons a b => rfl
  rw [nm]
  simp [lt, c2, cn]
  rw [w_cons]
  simp
  have ed : ((deep : Int) + 1) = ((deep + 1 : Nat) : Int) := by omega
  have e10 : ((P3.length : Int) + 2) = ((P3 ++ [58, 32] : Tx).length : Nat) := by simp
  rw [ed, e10]
  have et10 : text = (P3 ++ [58, 32]) ++ shV p.2 ++ tail := by rw [et9]; simp
  clear et9 c2 cn e10
  generalize P3 ++ [58, 32] = P4 at *
  refine va_at sp et10 (by omega) okp hw (nb p mv) (rs p mv) (by omega) hl en ?_
  simp [setSlots]
  have e11 : ((P4.length : Int) + ((shV p.2).length : Int)) = ((P4 ++ shV p.2 : Tx).length : Nat) := by simp
  rw [e11]
  clear e11
  generalize P4 ++ shV p.2 = P5 at *
  have ln : done.length < 1000 := by
    have := congrArg List.length eM
    simp at this
    omega
  rw [w_cons]
  simp [e3]
  refine ⟨by show done.length < 16777216; omega, ?_⟩
  have e7 : MP.hAt (h'.set h.length (.lst (done.map fdE ++ [.tup [.str p.1, p.2.enc]]))) h.length = some (.lst ((done ++ [p]).map fdE)) := by rw [hAt_set (hAt_lt e3)]; simp [fdE]
  have ov7 : Over h (h'.set h.length (.lst (done.map fdE ++ [.tup [.str p.1, p.2.enc]]))) := over_setL ov (Nat.le_refl _)
  generalize h'.set h.length (.lst (done.map fdE ++ [.tup [.str p.1, p.2.enc]])) = h3 at *
  rw [w_cons]
  cases r with
  | nil =>
    have et11 : text = P5 ++ 125 :: post := by rw [et10, t1 rfl]
    have eM2 : done ++ [p] = M := eM.symm
    rw [eM2] at e7
    simp [lt, cone P5 post 125 h3 (by decide) et11, e7]
    refine sat_compG M fdE (fun p => D.str p.1) (fun _ => true) (fun x mx => by rw [List.mem_singleton.mp mx]; exact e7) (fun x mx Q x1 y1 => ?_) ?_
    · rw [sat_step]
      simpa [fdE] using x1
    have em : ((M.filter fun _ => true).map fun p => D.str p.1) = (M.map (·.1)).map D.str := by
      rw [List.filter_eq_self.mpr fun _ _ => rfl, List.map_map]; rfl
    rw [em]
    refine are_rising (by omega) hAt_last (by rw [List.length_map]; omega) ?_
    rw [ri]
    have e8 : MP.hAt (h3 ++ [O.lst ((M.map (·.1)).map D.str)]) h.length = some (.lst (M.map fdE)) := by rw [hAt_app (hAt_lt e7)]; exact e7
    have ov8 : Over h (h3 ++ [O.lst ((M.map (·.1)).map D.str)]) := ov7.trans Over.app
    generalize h3 ++ [O.lst ((M.map (·.1)).map D.str)] = h4 at *
    simp
    rw [w_one]
    simp [e8]
    have lP : P5.length = P.length + (joinT tSep (M.map fdT)).length := by
      have a := congrArg List.length et
      have b := congrArg List.length et11
      simp at a b
      omega
    have q2 : Q (.tup [.tup [.str [114, 101, 99, 111, 114, 100], .tup (M.map fdE)], .int ((P5.length : Int) + 1)]) h := by
      rw [lP]
      simpa using q
    exact ⟨ov8, by rw [D.cl, D.cls, ecv]; rfl, q2⟩
  | cons p2 r =>
    have et11 : text = P5 ++ 44 :: (32 :: (joinT tSep ((p2 :: r).map fdT) ++ 125 :: post)) := by rw [et10, t2 p2 r rfl]; rfl
    simp [lt, cone P5 _ 44 h3 (by decide) et11]
    rw [w_cons]
    have c3 : cut text (some (P5.length : Int)) (some ((P5.length : Int) + 2)) = [44, 32] := cut_one et11 2
    have cn2 : copB .ne (.v (.str [44, 32])) (.v (.str [44, 32])) h3 = some false := by rw [c_nes rfl rfl]; rfl
    simp [lt, c3, cn2]
    rw [w_one]
    refine sat_augA (i := (P5.length : Int)) rfl ?_
    simp
    refine ⟨m - 1, by simp at lT; omega, ov7, done ++ [p], p2 :: r, P5 ++ tSep, some (.str p.1), some p.2.enc, by rw [eM]; simp, by simp, by simp at lT ⊢; omega, by rw [et11]; simp [tSep], e7, by simp [tSep]⟩
end LW

namespace LW
open MP PySem
/-! value_at whole -/
theorem G_deep : pgm.pg.G g_DEEPEST = .int 20 := rfl
theorem val_step {n : Nat} (sp : VaSpec n) : VaSpec (n + 1) := by
  intro K w deep h pre post v hK ok hw nb rs hd hl en Q q
  obtain ⟨K, rfl⟩ : ∃ k, K = k + 1 := ⟨K - 1, by omega⟩
  refine sat_call (F := df_value_at.fd) rfl rfl ?_
  show Sat (evSs pgm.pg.G (callF pgm.pg K) bf_value_at (startE 7 [.str (pre ++ shV v ++ post), .int (pre.length : Nat), .int (deep : Nat)]) h) _
  unfold bf_value_at startE
  have lt : (pre ++ shV v ++ post).length ≤ SL := by show _ ≤ 16777216; omega
  have fin : Over h h ∧ D.cl h.length (.tup [v.enc, .int ((pre.length + (shV v).length : Nat) : Int)]) = true ∧ Q (.tup [v.enc, .int ((pre.length + (shV v).length : Nat) : Int)]) h := ⟨Over.refl, by rw [D.cl, D.cls, Gv.cl ⟨v, rfl, ok⟩]; rfl, q⟩
  have gt : ¬ (20 : Int) < (deep : Int) := by omega
  obtain ⟨c, y, ec, hc, n93, n125⟩ := sh_head v
  have ct : cut (pre ++ shV v ++ post) (some (pre.length : Int)) (some ((pre.length : Int) + 1)) = [c] := cut_one (post := c :: (y ++ post)) (by rw [ec]; simp) 1
  have ce : ∀ k, k < 128 → copB .eq (.v (.str [c])) (.v (.str [k])) h = some (decide (c = k)) := fun k hk => by
    rw [c_eqs (by unfold isAscii; simp; exact hc) (by unfold isAscii; simp; exact hk)]
    congr 1
    simp
  have ce1 := ce 91 (by decide)
  have ce2 := ce 123 (by decide)
  have ce3 := ce 34 (by decide)
  rw [w_cons]
  cases v with
  | lst vs =>
    have e91 : c = 91 := by
      have : shV (.lst vs) = 91 :: (joinT tSep (shVs vs) ++ [93]) := by rw [shV]
      rw [this] at ec
      exact (List.cons.inj ec).1.symm
    subst e91
    have la : ∀ {Q : D → Hm → Prop}, Q (.tup [(Vl.lst vs).enc, .int ((pre.length + (shV (.lst vs)).length : Nat) : Int)]) h → Sat (callF pgm.pg K if_list_at [.str (pre ++ shV (.lst vs) ++ post), .int (pre.length : Nat), .int (deep : Nat)] h) Q := fun q => by
      rw [Vl.ok] at ok
      simp at ok
      exact list_at sp (w := w) (by omega) (Vls.ok_iff.mp ok.2) hw (by omega) ((nbVs_iff vs).mp nb) ((rsVs_iff vs).mp rs) (by omega) hl q
    generalize pre ++ shV (.lst vs) ++ post = text at *
    simp [G_deep, gt]
    rw [w_cons]
    simp [lt, ct]
    rw [w_cons]
    simp [ce1]
    rw [w_one]
    simp
    refine la ?_
    simpa using fin
  | rcd fs =>
    have e123 : c = 123 := by
      have : shV (.rcd fs) = 123 :: (joinT tSep (shFs fs) ++ [125]) := by rw [shV]
      rw [this] at ec
      exact (List.cons.inj ec).1.symm
    subst e123
    have ra : ∀ {Q : D → Hm → Prop}, Q (.tup [(Vl.rcd fs).enc, .int ((pre.length + (shV (.rcd fs)).length : Nat) : Int)]) h → Sat (callF pgm.pg K if_record_at [.str (pre ++ shV (.rcd fs) ++ post), .int (pre.length : Nat), .int (deep : Nat)] h) Q := fun q => by
      have ecv : ∀ m, (Vl.rcd fs).enc.cl m = true := fun m => Gv.cl ⟨_, rfl, ok⟩ m
      rw [Vl.ok] at ok
      simp at ok
      rw [rsV, Bool.and_eq_true, Bool.and_eq_true] at rs
      obtain ⟨rs1, rs2, rs3⟩ := rs
      have oks := Fls.ok_iff.mp ok.2
      refine record_at sp (w := w) (by omega) (fun p mp => ⟨(oks p mp).1, by have := (oks p mp).2.1; omega, (oks p mp).2.2⟩) hw (by omega) ((nbFs_iff fs).mp nb) ((rsFs_iff fs).mp rs1) (fun p mp e => ?_) rs2 (by omega) hl ecv q
      have := List.all_eq_true.mp rs3 p mp
      rw [e] at this
      cases this
    generalize pre ++ shV (.rcd fs) ++ post = text at *
    simp [G_deep, gt]
    rw [w_cons]
    simp [lt, ct]
    rw [w_cons]
    simp [ce1]
    rw [w_cons]
    simp [ce2]
    rw [w_one]
    simp
    refine ra ?_
    simpa using fin
  | txt x =>
    have e34 : c = 34 := by
      have : shV (.txt x) = 34 :: (x ++ [34]) := by rw [shV]
      rw [this] at ec
      exact (List.cons.inj ec).1.symm
    subst e34
    have az : isAz x = true := by rw [Vl.ok] at ok; simp at ok; exact ok.1
    have et : pre ++ shV (.txt x) ++ post = (pre ++ [34]) ++ x ++ 34 :: post := by rw [shV]; simp
    have ro : ∀ {Q : D → Hm → Prop}, Q (.str x) h → Sat (callF pgm.pg K if_run_of [.str (pre ++ shV (.txt x) ++ post), .int ((pre.length : Int) + 1), .str lets] h) Q := fun q => by
      rw [et] at hl ⊢
      have e1 : ((pre.length : Int) + 1) = ((pre ++ [34] : Tx).length : Nat) := by simp
      rw [e1]
      refine run_of (by omega) hl (az_lets az) ?_ q
      intro d e
      have e : 34 = d := Option.some.inj e
      subst e
      decide
    have e2 : ((pre.length : Int) + 1 + (x.length : Int)) = (((pre ++ [34]) ++ x : Tx).length : Nat) := by simp; omega
    have c2 : cut (pre ++ shV (.txt x) ++ post) (some ((((pre ++ [34]) ++ x : Tx).length : Nat) : Int)) (some (((((pre ++ [34]) ++ x : Tx).length : Nat) : Int) + 1)) = [34] := cut_one (post := 34 :: post) et 1
    have ln : x.length ≤ SL := by
      have := congrArg List.length et
      simp at this
      show _ ≤ 16777216
      rw [List.append_assoc] at hl
      simp at hl
      omega
    have e3 : ((pre.length + (shV (.txt x)).length : Nat) : Int) = (((pre ++ [34]) ++ x : Tx).length : Nat) + 1 := by rw [shV]; simp; omega
    rw [e3] at fin
    clear et e3
    generalize pre ++ shV (.txt x) ++ post = text at *
    simp [G_deep, gt]
    rw [w_cons]
    simp [lt, ct]
    rw [w_cons]
    simp [ce1]
    rw [w_cons]
    simp [ce2]
    rw [w_cons]
    simp [ce3]
    rw [w_cons]
    simp [G_lets]
    refine ro ?_
    rw [w_cons]
    simp [ln]
    rw [e2]
    generalize (pre ++ [34]) ++ x = P at *
    have cn : copB .ne (.v (.str [34])) (.v (.str [34])) h = some false := by rw [c_nes rfl rfl]; rfl
    rw [w_cons]
    simp [lt, c2, cn]
    rw [w_one]
    simp
    simpa [Vl.enc] using fin
  | tru b =>
    have et : pre ++ shV (.tru b) ++ post = pre ++ (if b then tTrue else tFalse) ++ post := by rw [shV]
    have es : shV (.tru b) = if b then tTrue else tFalse := by rw [shV]
    have ro : ∀ {Q : D → Hm → Prop}, Q (.str (if b then tTrue else tFalse)) h → Sat (callF pgm.pg K if_run_of [.str (pre ++ shV (.tru b) ++ post), .int (pre.length : Nat), .str lets] h) Q := fun q => by
      rw [et] at hl ⊢
      exact run_of (by omega) hl (by cases b <;> decide) en.2 q
    have nc : c ≠ 91 ∧ c ≠ 123 ∧ c ≠ 34 := by
      rw [es] at ec
      cases b
      · have := (List.cons.inj (show (102 :: [97, 108, 115, 101] : Tx) = c :: y from ec)).1
        omega
      · have := (List.cons.inj (show (116 :: [114, 117, 101] : Tx) = c :: y from ec)).1
        omega
    rw [es] at fin
    generalize pre ++ shV (.tru b) ++ post = text at *
    simp [G_deep, gt]
    rw [w_cons]
    simp [lt, ct]
    rw [w_cons]
    simp [ce1, nc.1]
    rw [w_cons]
    simp [ce2, nc.2.1]
    rw [w_cons]
    simp [ce3, nc.2.2]
    rw [w_cons]
    simp [G_lets]
    refine ro ?_
    have ci : copB .inn (.v (.str (if b then tTrue else tFalse))) (.v (.tup [.str [116, 114, 117, 101], .str [102, 97, 108, 115, 101]])) h = some true := by
      rw [c_int (by cases b <;> rfl) rfl]
      cases b <;> rfl
    have cq : copB .eq (.v (.str (if b then tTrue else tFalse))) (.v (.str [116, 114, 117, 101])) h = some b := by
      rw [c_eqs (by cases b <;> rfl) rfl]
      cases b <;> rfl
    have ln : (if b then tTrue else tFalse : Tx).length ≤ SL := by cases b <;> decide
    generalize (if b then tTrue else tFalse : Tx) = W at *
    rw [w_cons]
    simp [ci]
    rw [w_one]
    simp [cq, ln]
    simpa [Vl.enc] using fin
  | num i =>
    have hi : i.natAbs < 10 ^ 30 := of_decide_eq_true nb
    have es : shV (.num i) = numT i := by rw [shV]
    have et : pre ++ shV (.num i) ++ post = pre ++ [] ++ (numT i ++ post) := by rw [es]; simp
    have en0 : numT i = c :: y := by rw [← es]; exact ec
    have nf : c = 45 ∨ 48 ≤ c ∧ c ≤ 57 := by
      obtain ⟨s, fig, e, ne, af⟩ := numT_parts i
      rw [e] at en0
      cases s with
      | true => exact .inl (List.cons.inj (show (45 :: fig : Tx) = c :: y from en0)).1.symm
      | false =>
        have : fig = c :: y := en0
        exact .inr (mem_figs.mp (af c (by rw [this]; exact List.mem_cons_self)))
    have ro : ∀ {Q : D → Hm → Prop}, Q (.str []) h → Sat (callF pgm.pg K if_run_of [.str (pre ++ shV (.num i) ++ post), .int (pre.length : Nat), .str lets] h) Q := fun q => by
      rw [et] at hl ⊢
      refine run_of (by omega) hl (fun _ m => by cases m) ?_ q
      intro d e
      rw [en0] at e
      have e : c = d := Option.some.inj e
      subst e
      unfold lets
      simp
      omega
    have na : ∀ {Q : D → Hm → Prop}, Q (.tup [.int i, .int ((pre.length + (numT i).length : Nat) : Int)]) h → Sat (callF pgm.pg K if_number_at [.str (pre ++ shV (.num i) ++ post), .int (pre.length : Nat)] h) Q := fun q => by
      rw [es] at hl ⊢
      exact number_at (by omega) hl hi en.1 q
    rw [es] at fin
    generalize pre ++ shV (.num i) ++ post = text at *
    have n1 : c ≠ 91 := by omega
    have n2 : c ≠ 123 := by omega
    have n3 : c ≠ 34 := by omega
    simp [G_deep, gt]
    rw [w_cons]
    simp [lt, ct]
    rw [w_cons]
    simp [ce1, n1]
    rw [w_cons]
    simp [ce2, n2]
    rw [w_cons]
    simp [ce3, n3]
    rw [w_cons]
    simp [G_lets]
    refine ro ?_
    have ci : copB .inn (.v (.str [])) (.v (.tup [.str [116, 114, 117, 101], .str [102, 97, 108, 115, 101]])) h = some false := by
      rw [c_int rfl rfl]
      rfl
    rw [w_cons]
    simp [ci]
    rw [w_one]
    simp
    refine na ?_
    simpa [Vl.enc] using fin
theorem value_at : ∀ n : Nat, VaSpec n
  | 0 => fun _ ok _ _ _ _ _ _ => absurd (Vl.ok_pos ok) (Nat.lt_irrefl _)
  | n + 1 => val_step (value_at n)
theorem read_value {n K w : Nat} {h : Hm} {v : Vl} (hn : n ≤ 20) (hK : 2 * n + 4 ≤ K) (ok : v.ok w n = true) (hw : w ≤ 900) (nb : nbV v = true) (rs : rsV v = true) (hl : (shV v).length ≤ 16000000) {Q : D → Hm → Prop} (q : Q v.enc h) : Sat (callF pgm.pg K if_read_value [.str (shV v)] h) Q := by
  obtain ⟨K, rfl⟩ : ∃ k, K = k + 1 := ⟨K - 1, by omega⟩
  refine sat_call (F := df_read_value.fd) rfl rfl ?_
  show Sat (evSs pgm.pg.G (callF pgm.pg K) bf_read_value (startE 3 [.str (shV v)]) h) _
  unfold bf_read_value startE
  have lt : (shV v).length ≤ SL := by show _ ≤ 16777216; omega
  rw [w_cons]
  simp
  refine va_at (value_at n) (deep := 1) (pre := []) (post := []) (v := v) (by simp) (by omega) ok hw nb rs (by omega) hl ⟨(fun c e => by cases e), fun c e => by cases e⟩ ?_
  simp [setSlots]
  rw [w_cons]
  simp [lt]
  rw [w_one]
  simp
  exact ⟨Over.refl, Gv.cl ⟨v, rfl, ok⟩ _, q⟩
end LW

namespace LW
open MP
theorem alike : ∀ (m : Nat) {K : Nat} {h : Hm} {d e : D}, m ≤ 62 → m ≤ K → nice m d = true → nice m e = true → ∀ {Q : D → Hm → Prop}, Q (.bl (alk d e)) h → Sat (callF pgm.pg K if_law_alike [d, e] h) Q := by
  intro m
  induction m with
  | zero => intro K h d e _ _ a; cases a
  | succ m ih =>
  intro K h d e hm hK a b Q q
  obtain ⟨K, rfl⟩ : ∃ k, K = k + 1 := ⟨K - 1, by omega⟩
  refine sat_call (F := df_law_alike.fd) rfl rfl ?_
  show Sat (evSs pgm.pg.G (callF pgm.pg K) bf_law_alike (startE 3 [d, e]) h) _
  unfold bf_law_alike startE
  have fin : ∀ x : Bool, alk d e = x → Over h h ∧ (D.bl x).cl h.length = true ∧ Q (.bl x) h := fun x e => ⟨Over.refl, rfl, by rw [← e]; exact q⟩
  cases d <;> (try (cases a; done)) <;> cases e <;> (try (cases b; done))
  all_goals (rw [w_cons]; simp [isTy])
  all_goals (try (exact fin _ rfl))
  all_goals (rw [w_cons]; simp [isTy])
  all_goals (try rw [w_one]; simp)
  case int.str => rw [c_eqd (show dt 62 (.int _) = true from rfl) (dt_up (m := 62) (by omega) (nice_dt b))]; exact fin _ rfl
  case str.int => rw [c_eqd (dt_up (m := 62) (by omega) (nice_dt a)) (show dt 62 (.int _) = true from rfl)]; exact fin _ rfl
  case str.str => rw [c_eqd (dt_up (m := 62) (by omega) (nice_dt a)) (dt_up (m := 62) (by omega) (nice_dt b))]; exact fin _ rfl
  case tup.tup xs ys =>
    obtain ⟨lx, gx⟩ := nice_mem a
    obtain ⟨ly, gy⟩ := nice_mem b
    rw [w_cons]
    simp
    refine ⟨fun ne => fin _ ?_, fun el => ?_⟩
    · rw [alk]
      cases e : alks xs ys with
      | false => rfl
      | true => exact absurd (by rw [alks_len e]) ne
    have el : xs.length = ys.length := by omega
    rw [w_one]
    simp
    refine ⟨⟨small_ok (by omega) (by omega), by show _ ≤ 16777216; omega⟩, ?_⟩
    have e : alks xs ys = ((List.range xs.length).map fun i => alk (xs[i]?.getD .non) (ys[i]?.getD .non)).all id := by
      rw [alks_at el, List.all_map]
      refine all_congr' fun i mi => ?_
      have hi := List.mem_range.mp mi
      show _ = alk _ _
      rw [List.getElem?_eq_getElem hi, List.getElem?_eq_getElem (show i < ys.length by omega)]
      rfl
    refine sat_compN (fun i acc h' => acc = ((List.range i).map fun i => alk (xs[i]?.getD .non) (ys[i]?.getD .non)).map .bl ∧ h' = h) ⟨rfl, rfl⟩ ?_ ?_
    · intro i acc h' hi z
      obtain ⟨rfl, rfl⟩ := z
      refine ⟨hc_nil, ?_⟩
      rw [sat_step]
      have hj : i < ys.length := by omega
      have e1 : atI xs (i : Int) = some xs[i] := by rw [atI_nat, List.getElem?_eq_getElem hi]
      have e2 : atI ys (i : Int) = some ys[i] := by rw [atI_nat, List.getElem?_eq_getElem hj]
      simp [e1, e2]
      refine ih (by omega) (by omega) (gx _ (List.getElem_mem hi)) (gy _ (List.getElem_mem hj)) ?_
      rw [List.range_succ, List.map_append]
      simp [List.getElem?_eq_getElem hi, List.getElem?_eq_getElem hj]
    · intro acc h' z
      obtain ⟨rfl, rfl⟩ := z
      refine ⟨hc_nil, ?_⟩
      simp only [b_alll]
      refine fin _ ?_
      rw [alk]; exact e
end LW

namespace LW
open MP PySem
/-! a value is right -/
theorem asc_app {x y : Tx} (hx : isAscii x = true) (hy : isAscii y = true) : isAscii (x ++ y) = true := by
  unfold isAscii at *
  rw [List.all_append, hx, hy]; rfl
theorem asc_join {sep : Tx} (hs : isAscii sep = true) : ∀ {ts : List Tx}, (∀ t ∈ ts, isAscii t = true) → isAscii (joinT sep ts) = true
  | [], _ => rfl
  | [x], h => h x List.mem_cons_self
  | x :: y :: r, h => by
    rw [joinT_cons]
    exact asc_app (asc_app (h x List.mem_cons_self) hs) (asc_join hs fun t m => h t (List.mem_cons_of_mem _ m))
theorem sh_asc : ∀ (n : Nat) {w : Nat} {v : Vl}, v.ok w n = true → isAscii (shV v) = true
  | 0, _, _, ok => absurd (Vl.ok_pos ok) (Nat.lt_irrefl _)
  | n + 1, w, v, ok => by
    cases v with
    | num i =>
      rw [shV]
      obtain ⟨s, fig, e, ne, af⟩ := numT_parts i
      rw [e]
      refine asc_app (by cases s <;> rfl) ?_
      unfold isAscii
      rw [List.all_eq_true]
      exact fun c m => decide_eq_true (by have := mem_figs.mp (af c m); omega)
    | txt x =>
      rw [Vl.ok] at ok
      simp at ok
      rw [shV]
      exact asc_app (x := [34]) rfl (asc_app (az_ascii ok.1) rfl)
    | tru b => cases b <;> rfl
    | lst vs =>
      rw [Vl.ok] at ok
      simp at ok
      rw [shV, shVs_eq]
      refine asc_app (x := [91]) rfl (asc_app (asc_join rfl fun t m => ?_) rfl)
      obtain ⟨v, mv, rfl⟩ := List.mem_map.mp m
      exact sh_asc n (Vls.ok_iff.mp ok.2 v mv)
    | rcd fs =>
      rw [Vl.ok] at ok
      simp at ok
      rw [shV, shFs_eq]
      refine asc_app (x := [123]) rfl (asc_app (asc_join rfl fun t m => ?_) rfl)
      obtain ⟨p, mp, rfl⟩ := List.mem_map.mp m
      have := Fls.ok_iff.mp ok.2 p mp
      exact asc_app (asc_app (az_ascii this.1) rfl) (sh_asc n this.2.2)
theorem law_right {n K w : Nat} {h : Hm} {v : Vl} (hn : n ≤ 20) (hK : 62 + 10 ≤ K) (ok : v.ok w n = true) (hw : w ≤ 100) (nb : nbV v = true) (rs : rsV v = true) (nc : nice 62 v.enc = true) (al : alk v.enc v.enc = true) (hl : (shV v).length ≤ 9400000) {Q : D → Hm → Prop} (q : Q (.bl true) h) : Sat (callF pgm.pg K if_law_right [v.enc] h) Q := by
  obtain ⟨K, rfl⟩ : ∃ k, K = k + 1 := ⟨K - 1, by omega⟩
  refine sat_call (F := df_law_right.fd) rfl rfl ?_
  show Sat (evSs pgm.pg.G (callF pgm.pg K) bf_law_right (startE 2 [v.enc]) h) _
  unfold bf_law_right startE
  have asc := sh_asc n ok
  have ce : copB .eq (.v (.str (shV v))) (.v (.str (shV v))) h = some true := by rw [c_eqs asc asc]; simp
  rw [w_cons]
  simp
  refine show_value n (by omega) ok nb hl ?_
  rw [w_one]
  simp [isTy]
  refine law_written n (by omega) ok nb hl ?_
  simp [ce]
  refine read_value hn (by omega) ok (by omega) nb rs (by omega) ?_
  refine alike 62 (by omega) (by omega) nc nc ?_
  rw [al]
  exact ⟨Over.refl, rfl, q⟩
end LW

namespace LW
open MP
theorem draw {k n : Nat} {h : Hm} (hi : HI h n) {L : Int} (hL : 0 < L) (hL2 : L < 2 ^ 200) {Q : D → Hm → Prop} (q : ∀ v h', Gr n h h' → h'.length = h.length → 0 ≤ v → v < L → Q (.int v) h') :
    Sat (callF pgm.pg (k + 1) if_law_draw [.ref n, .int L] h) Q := by
  refine sat_callH hi (F := df_law_draw.fd) rfl rfl ?_
  obtain ⟨a, b, w, z, hn, b1, b2⟩ := id hi
  have hlt := hAt_lt hn
  show Sat (evSs pgm.pg.G (callF pgm.pg k) bf_law_draw (startE 3 [.ref n, .int L]) h) _
  unfold bf_law_draw startE
  have d1 := div_small hL hL2
  have m1 : mulOk b b = true := mul_small (by omega) (by omega)
  have d8 : divOk 8 = true := by decide
  have e1 : 0 ≤ b * b % 2147483629 := Int.emod_nonneg _ (by decide)
  have e2 : b * b % 2147483629 < 2147483629 := Int.emod_lt_of_pos _ (by decide)
  have m2 : mulOk (b * b % 2147483629 + 3) 69621 = true := mul_small (by omega) (by decide)
  unfold hand at hn
  simp [w_cons, hn, hlt, atI, ixN, d1, m1, m2, hL, d8]
  refine ⟨fun _ => ⟨(Gr.refl hi).hand b1 b2, rfl, fun h'' g l => q _ _ g l (Int.emod_nonneg _ (by omega)) (Int.emod_lt_of_pos _ hL)⟩, fun _ => ⟨(Gr.refl hi).hand (by omega) (by omega), rfl, fun h'' g l => q _ _ g l (Int.emod_nonneg _ (by omega)) (Int.emod_lt_of_pos _ hL)⟩⟩
theorem the_hand {k : Nat} {h : Hm} {ns : List Int} {cell kk : Int} (h0 : 0 ≤ kk) (h1 : kk < 64) {Q : D → Hm → Prop} (q : ∀ a b w z, 0 ≤ b → b < 3000000000 → Q (.ref h.length) (h ++ [hand a b w z])) :
    Sat (callF pgm.pg (k + 1) if_law_hand [.fz (ns.map .int), .int cell, .int kk] h) Q := by
  refine sat_callG (F := df_law_hand.fd) rfl rfl ?_
  show Sat (evSs pgm.pg.G (callF pgm.pg k) bf_law_hand (startE 4 [.fz (ns.map .int), .int cell, .int kk]) h) _
  unfold bf_law_hand startE
  have e1 : 0 ≤ cell % 2147483629 := Int.emod_nonneg _ (by decide)
  have e2 : cell % 2147483629 < 2147483629 := Int.emod_lt_of_pos _ (by decide)
  have m1 : mulOk 7919 kk = true := mul_small (by decide) (by omega)
  have m2 : mulOk (cell % 2147483629 + 7919 * kk + 1) 48271 = true := mul_small (by omega) (by decide)
  have fin : ∀ way : Int, Sat (evSs pgm.pg.G (callF pgm.pg k) (.cons (.ret (.lst (.cons (.var 1) (.cons (.bin .mod (.bin .mul (.bin .add (.bin .add (.bin .mod (.var 1) (.int 2147483629)) (.bin .mul (.int 7919) (.var 2))) (.int 1)) (.int 48271)) (.int 2147483647)) (.cons (.var 3) (.cons (.int 0) .nil)))))) .nil) [some (.fz (ns.map .int)), some (.int cell), some (.int kk), some (.int way)] h) fun o h' => EK o fun d => Sat (gcR h (.ok d h')) Q := fun way => by
    simp [w_one, m1, m2]
    rw [gc_list Over.app hAt_last (Nat.le_refl _) rfl]
    exact q _ _ _ _ (Int.emod_nonneg _ (by decide)) (by have := Int.emod_lt_of_pos ((cell % 2147483629 + 7919 * kk + 1) * 48271) (show (0 : Int) < 2147483647 by decide); omega)
  rw [w_cons]
  simp
  rw [w_cons]
  simp
  refine ⟨fun _ => ?_, fun _ => fin _⟩
  rw [w_one]
  simp
  exact fin _
end LW

namespace LW
open MP PySem
/-! values drawn, with what their text needs -/
def Gw (n : Nat) (d : D) : Prop := ∃ v : Vl, d = v.enc ∧ v.ok 20 n = true ∧ nbV v = true ∧ rsV v = true
theorem Gw.cl {n : Nat} {d : D} (g : Gw n d) (m : Nat) : d.cl m = true := by
  obtain ⟨v, rfl, ok, _⟩ := g
  exact Gv.cl ⟨v, rfl, ok⟩ m
theorem Gw.num {n : Nat} (hn : 0 < n) {i : Int} (h : i.natAbs < 10 ^ 30) : Gw n (.int i) := ⟨.num i, rfl, by rw [Vl.ok]; simp [hn], decide_eq_true h, rfl⟩
theorem Gw.txt {n : Nat} (hn : 0 < n) {x : Tx} (az : isAz x = true) (l : x.length ≤ 20) : Gw n (.str x) := ⟨.txt x, rfl, by rw [Vl.ok]; simp [hn, az, l], rfl, rfl⟩
theorem Gw.tru {n : Nat} (hn : 0 < n) (b : Bool) : Gw n (.bl b) := ⟨.tru b, rfl, by rw [Vl.ok]; simp [hn], rfl, rfl⟩
theorem gw_vals {n : Nat} : ∀ {ds : List D}, (∀ d ∈ ds, Gw n d) → ∃ vs : List Vl, ds = vs.map Vl.enc ∧ ∀ v ∈ vs, v.ok 20 n = true ∧ nbV v = true ∧ rsV v = true
  | [], _ => ⟨[], rfl, fun _ m => by cases m⟩
  | d :: ds, h => by
    obtain ⟨v, e, r⟩ := h d List.mem_cons_self
    obtain ⟨vs, e2, r2⟩ := gw_vals (ds := ds) fun d m => h d (List.mem_cons_of_mem _ m)
    refine ⟨v :: vs, by rw [List.map_cons, e, e2], fun u mu => ?_⟩
    rcases List.mem_cons.mp mu with z | z
    · rw [z]; exact r
    · exact r2 u z
theorem Gw.lst {n : Nat} {ds : List D} (h : ∀ d ∈ ds, Gw n d) (l : ds.length ≤ 20) : Gw (n + 1) (.tup [.str tList, .tup ds]) := by
  obtain ⟨vs, rfl, r⟩ := gw_vals h
  rw [List.length_map] at l
  refine ⟨.lst (Vls.of vs), by rw [Vl.enc, Vls.encs_eq, Vls.toL_of], ?_, ?_, ?_⟩
  · rw [Vl.ok, Vls.toL_of]
    simp
    exact ⟨l, Vls.ok_iff.mpr fun v mv => (r v (by rw [Vls.toL_of] at mv; exact mv)).1⟩
  · show nbVs _ = true
    rw [nbVs_iff, Vls.toL_of]
    exact fun v mv => (r v mv).2.1
  · show rsVs _ = true
    rw [rsVs_iff, Vls.toL_of]
    exact fun v mv => (r v mv).2.2
theorem Gw.rcd {n : Nat} {ps : List (Tx × Vl)} (h : ∀ p ∈ ps, isAz p.1 = true ∧ 0 < p.1.length ∧ p.1.length ≤ 20 ∧ p.2.ok 20 n = true ∧ nbV p.2 = true ∧ rsV p.2 = true) (ri : risT (ps.map (·.1)) = true) (l : ps.length ≤ 20) : Gw (n + 1) (.tup [.str tRec, .tup (ps.map fdE)]) := by
  refine ⟨.rcd (Fls.of ps), by rw [Vl.enc, Fls.encs_eq, Fls.toL_of]; rfl, ?_, ?_, ?_⟩
  · rw [Vl.ok, Fls.toL_of]
    simp
    exact ⟨l, Fls.ok_iff.mpr fun p mp => by
      rw [Fls.toL_of] at mp
      have := h p mp
      exact ⟨this.1, this.2.2.1, this.2.2.2.1⟩⟩
  · show nbFs _ = true
    rw [nbFs_iff, Fls.toL_of]
    exact fun p mp => (h p mp).2.2.2.2.1
  · rw [rsV, Fls.toL_of, Bool.and_eq_true, Bool.and_eq_true]
    refine ⟨(rsFs_iff _).mpr fun p mp => ?_, ri, ?_⟩
    · rw [Fls.toL_of] at mp
      exact (h p mp).2.2.2.2.2
    · rw [List.all_eq_true]
      intro p mp
      have := (h p mp).2.1
      cases e : p.1 with
      | nil => rw [e] at this; exact absurd this (by decide)
      | cons a b => rfl
theorem pow18 : powOk 10 18 = true := by decide
theorem number {k n : Nat} {h : Hm} (hi : HI h n) {Q : D → Hm → Prop} (q : ∀ v h', Gr n h h' → h'.length = h.length → v.natAbs < 10 ^ 30 → Q (.int v) h') :
    Sat (callF pgm.pg (k + 2) if_law_number [.ref n] h) Q := by
  refine sat_callH hi (F := df_law_number.fd) rfl rfl ?_
  show Sat (evSs pgm.pg.G (callF pgm.pg (k + 1)) bf_law_number (startE 1 [.ref n]) h) _
  unfold bf_law_number startE
  have m1 : mulOk 2 1000000000000000000 = true := by decide
  simp [w_cons, pow18]
  refine draw hi (by decide) (by decide) fun v h1 g1 l1 v0 v1 => ?_
  simp [pow18, m1]
  refine ⟨fun _ => ?_, fun _ => ?_⟩
  · refine draw g1.hd (by decide) (by decide) fun v h2 g2 l2 v0 v1 => ?_
    simp
    have lv : (v - 1000000000000000000).natAbs < 10 ^ 30 := Nat.lt_of_le_of_lt (show _ ≤ 1000000000000000000 by omega) (by decide)
    exact ⟨g1.trans g2, rfl, fun h'' g l => q _ _ g l lv⟩
  · refine draw g1.hd (by decide) (by decide) fun v h2 g2 l2 v0 v1 => ?_
    rw [w_ixl]
    refine ok_pick v0 v1 ?_
    have fin : ∀ i : Int, i.natAbs < 10 ^ 30 → Gr n h h2 ∧ D.cl h.length (.int i) = true ∧ ∀ h'', Gr n h h'' → h''.length = h.length → Q (.int i) h'' := fun i hi => ⟨g1.trans g2, rfl, fun h'' g l => q _ _ g l hi⟩
    simp only [List.forall_mem_cons, box_v]
    exact ⟨fin _ (by decide), fin _ (by decide), fin _ (by decide), fin _ (by decide), fin _ (by decide), fin _ (by decide), fin _ (by decide), fin _ (by decide), fin _ (by decide), fin _ (by decide), fun _ m => by cases m⟩
end LW

namespace LW
open MP
def LtM (n m0 m1 : Nat) (h : Hm) (i : Nat) (σ : MP.Env) (h4 : Hm) : Prop := ∃ x ks, σ = [some (.ref n), some (.int m0), some (.int m1), some (.str x), ks] ∧ Gr n h h4 ∧ isAz x = true ∧ x.length = i
theorem letters {k n : Nat} {h : Hm} (hi : HI h n) {m0 m1 : Nat} (hm : m0 ≤ m1) (hm1 : m1 ≤ 1000) {Q : D → Hm → Prop} (q : ∀ x h', Gr n h h' → h'.length = h.length → isAz x = true → m0 ≤ x.length → x.length ≤ m1 → Q (.str x) h') :
    Sat (callF pgm.pg (k + 2) if_law_letters [.ref n, .int m0, .int m1] h) Q := by
  refine sat_callH hi (F := df_law_letters.fd) rfl rfl ?_
  show Sat (evSs pgm.pg.G (callF pgm.pg (k + 1)) bf_law_letters (startE 5 [.ref n, .int m0, .int m1]) h) _
  unfold bf_law_letters startE
  rw [w_cons]
  simp
  rw [w_cons]
  simp
  refine draw hi (by omega) (by omega) fun c h1 g1 l1 c0 c1 => ?_
  simp
  refine ⟨⟨small_ok (by omega) (by omega), by omega⟩, ?_⟩
  refine sat_forN (LtM n m0 m1 h) ⟨[], _, rfl, g1, rfl, rfl⟩ ?_ ?_
  · intro i σ h4 hlt z
    obtain ⟨x, ks, es, g4, az, lx⟩ := z
    subst es
    refine ⟨hc_nil, ?_⟩
    rw [tg_nm, ok_some, w_one]
    simp
    refine draw g4.hd (by decide) (by decide) fun v h5 g5 l5 v0 v1 => ?_
    simp
    refine ⟨by decide, ?_⟩
    refine ok_pick v0 v1 ?_
    intro d hd
    have da : (decide (97 ≤ d) && decide (d ≤ 122)) = true := by
      simp only [List.mem_cons, List.mem_nil_iff, or_false] at hd
      rcases hd with rfl | rfl | rfl | rfl | rfl | rfl | rfl | rfl | rfl | rfl | rfl | rfl | rfl | rfl | rfl | rfl | rfl | rfl | rfl | rfl | rfl | rfl | rfl | rfl | rfl | rfl <;> rfl
    refine ⟨by show x.length + 1 ≤ 16777216; omega, x ++ [d], _, rfl, g4.trans g5, ?_, by simp [lx]⟩
    rw [az_app, az]
    show (true && ([d].all fun c => decide (97 ≤ c) && decide (c ≤ 122))) = true
    rw [List.all_cons, da]; rfl
  · intro σ h4 z
    obtain ⟨x, ks, es, g4, az, lx⟩ := z
    subst es
    refine ⟨hc_nil, ?_⟩
    simp
    rw [w_one]
    simp
    exact ⟨g4, rfl, fun h'' g l => q _ _ g l az (by omega) (by omega)⟩
theorem text {k n : Nat} {h : Hm} (hi : HI h n) {Q : D → Hm → Prop} (q : ∀ x h', Gr n h h' → h'.length = h.length → isAz x = true → x.length ≤ 20 → Q (.str x) h') :
    Sat (callF pgm.pg (k + 3) if_law_text [.ref n] h) Q := by
  refine sat_callH hi (F := df_law_text.fd) rfl rfl ?_
  show Sat (evSs pgm.pg.G (callF pgm.pg (k + 2)) bf_law_text (startE 1 [.ref n]) h) _
  unfold bf_law_text startE
  rw [w_cons]
  simp
  refine draw hi (by decide) (by decide) fun v h1 g1 l1 v0 v1 => ?_
  simp
  refine ⟨fun _ => ?_, fun _ => ?_⟩
  · rw [w_one]
    simp
    refine letters (m0 := 0) (m1 := 20) g1.hd (by omega) (by omega) fun x h2 g2 l2 az _ lx => ?_
    exact ⟨g1.trans g2, rfl, fun h'' g l => q _ _ g l az lx⟩
  · rw [w_one]
    simp
    refine ⟨by decide, ?_⟩
    refine draw g1.hd (by decide) (by decide) fun v h2 g2 l2 v0 v1 => ?_
    rw [w_ixl]
    refine ok_pick v0 v1 ?_
    intro d hd
    obtain ⟨x, rfl, az, lx⟩ : ∃ x, d = .str x ∧ isAz x = true ∧ x.length ≤ 20 := by
      simp only [List.mem_cons, List.mem_nil_iff, or_false] at hd
      rcases hd with rfl | rfl | rfl | rfl | rfl | rfl | rfl | rfl | rfl | rfl <;> exact ⟨_, rfl, by decide, by decide⟩
    exact ⟨g1.trans g2, rfl, fun h'' g l => q _ _ g l az lx⟩
end LW

namespace LW
open MP
/-! names drawn, rising -/
def NmQ (ts : List Tx) : Prop := (ts.Pairwise fun a b => ltT a b = true) ∧ (∀ x ∈ ts, isAz x = true ∧ 0 < x.length ∧ x.length ≤ 8) ∧ ts.length ≤ 8
def Nm8 (x : Tx) : Prop := isAz x = true ∧ 0 < x.length ∧ x.length ≤ 8
theorem srt_ltH {ts : List Tx} (nd : ts.Nodup) : (srtB leT ts).Pairwise fun a b => ltT a b = true := by
  have p := srtB_perm (le := leT) ts
  have w := srtB_pw leT_tot leT_tr ts
  have nu : (srtB leT ts).Nodup := p.nodup_iff.mpr nd
  refine List.Pairwise.imp_of_mem (fun {a b} ma mb q => ?_) (List.Pairwise.and w nu)
  have q1 : ltT b a = false := by
    have := q.1
    unfold leT at this
    simpa using this
  cases e : ltT a b with
  | true => rfl
  | false => exact absurd (ltT_tri a b e q1) q.2
theorem b_sortDk {m : Nat} {kvs : List (D × D)} {ts : List Tx} {h : Hm} {Q : RV → Hm → Prop} (e : MP.hAt h m = some (.dic kvs)) (ek : kvs.map (·.1) = ts.map D.str) (l : ts.length < 64) (q : Q (.l ((srtB leT ts).map .str)) h) : Sat (bltF .sorted [.v (.ref m)] h) Q := by
  have := b_sortS (h := h) (Q := Q) l q
  show Sat (match itemsK (.v (.ref m)) h with | some xs => sortedF xs h | none => .bad) Q
  rw [items_dic e, ek]
  exact this
def HnM (n m : Nat) (h : Hm) (i : Nat) (σ : MP.Env) (h4 : Hm) : Prop := ∃ (kvs : List (D × D)) (ts : List Tx) (ks nm : Option D), σ = [some (.ref n), some (.ref m), ks, nm] ∧ Gr n h h4 ∧ MP.hAt h4 m = some (.dic kvs) ∧ Dk kvs ts ∧ (∀ x ∈ ts, Nm8 x) ∧ ts.length ≤ i
def HnX (n m : Nat) (h : Hm) (kvs : List (D × D)) (σ : MP.Env) (h4 : Hm) : Prop := ∃ ks x, σ = [some (.ref n), some (.ref m), ks, some (.str x)] ∧ Gr n h h4 ∧ MP.hAt h4 m = some (.dic kvs) ∧ Nm8 x
theorem hnames {k n : Nat} {h : Hm} (hi : HI h n) {Q : D → Hm → Prop} (q : ∀ (ts : List Tx) (h' : Hm), Gr n h h' → h'.length = h.length + 1 → MP.hAt h' h.length = some (.lst (ts.map .str)) → NmQ ts → Q (.ref h.length) h') :
    Sat (callF pgm.pg (k + 3) if_law_names [.ref n] h) Q := by
  refine sat_callG (F := df_law_names.fd) rfl rfl ?_
  show Sat (evSs pgm.pg.G (callF pgm.pg (k + 2)) bf_law_names (startE 4 [.ref n]) h) _
  unfold bf_law_names startE
  have hn := hi.lt
  rw [w_cons]
  simp
  have gm : Gr n h (h ++ [.dic []]) := (Gr.refl hi).app
  have em : MP.hAt (h ++ [.dic []]) h.length = some (.dic []) := hAt_last
  have hne : h.length ≠ n := by omega
  generalize h ++ [.dic []] = h1 at *
  generalize hm : h.length = m at em hne
  have hge : h.length ≤ m := Nat.le_of_eq hm
  refine sat_seq (fun σ h4 => HnM n m h 8 σ h4) ?_ ?_
  · simp
    refine draw gm.hd (by decide) (by decide) fun a h2 g2 l2 a0 a1 => ?_
    rw [w_ixl]
    refine ok_pick a0 a1 ?_
    intro d hd
    obtain ⟨L, rfl, L0, L1⟩ : ∃ L : Int, d = .int L ∧ 0 < L ∧ L ≤ 9 := by
      simp at hd
      rcases hd with rfl | rfl
      · exact ⟨_, rfl, by decide, by decide⟩
      · exact ⟨_, rfl, by decide, by decide⟩
    simp
    refine draw g2.hd L0 (by omega) fun c h3 g3 l3 c0 c1 => ?_
    simp
    refine ⟨⟨small_ok (by omega) (by omega), by omega⟩, ?_⟩
    have e3 := g3.get (g2.get em hne) hne
    refine sat_forN (HnM n m h) ⟨[], [], _, _, rfl, (gm.trans g2).trans g3, e3, ⟨rfl, by simp⟩, fun _ m => (by cases m), Nat.le_refl _⟩ ?_ ?_
    · intro i σ h4 hlt z
      obtain ⟨kvs, ts, ks, nm, es, g4, e4, d4, p4, l4⟩ := z
      subst es
      refine ⟨hc_nil, ?_⟩
      rw [tg_nm, ok_some]
      refine sat_seq (HnX n m h kvs) ?_ ?_
      · simp
        refine draw g4.hd (by decide) (by decide) fun v h5 g5 l5 v0 v1 => ?_
        rw [w_ixl]
        refine ok_pick v0 v1 ?_
        intro d hd
        obtain ⟨x, rfl, nx⟩ : ∃ x, d = .str x ∧ Nm8 x := by
          simp only [List.mem_cons, List.mem_nil_iff, or_false] at hd
          rcases hd with rfl | rfl | rfl | rfl | rfl | rfl | rfl | rfl <;> exact ⟨_, rfl, by decide, by decide, by decide⟩
        exact ⟨_, x, rfl, g4.trans g5, g5.get e4 hne, nx⟩
      intro σ h5 z
      refine sat_seq (HnX n m h kvs) ?_ ?_
      · obtain ⟨ks, x, es, g5, e5, nx⟩ := z
        subst es
        simp
        refine draw g5.hd (by decide) (by decide) fun v h6 g6 l6 v0 v1 => ?_
        simp
        refine ⟨fun _ => ?_, fun _ => ⟨_, x, rfl, g5.trans g6, g6.get e5 hne, nx⟩⟩
        rw [w_one]
        simp
        refine letters (m0 := 1) (m1 := 8) g6.hd (by omega) (by omega) fun y h7 g7 l7 ay ly0 ly => ?_
        exact ⟨_, y, rfl, (g5.trans g6).trans g7, g7.get (g6.get e5 hne) hne, ay, ly0, ly⟩
      intro σ h6 z
      obtain ⟨ks, x, es, g6, e6, nx⟩ := z
      subst es
      rw [w_one]
      simp [e6]
      have lt6 := hAt_lt e6
      obtain ⟨us, d7, m7, l7⟩ := Dk.put (x := x) (v := .bl true) d4
      refine ⟨by have := congrArg List.length d4.1; simp at this; show _ < 16777216; omega, _, us, _, _, rfl, g6.own hge hne, hAt_set lt6, d7, fun y my => ?_, by omega⟩
      rcases (m7 y).mp my with z | z
      · exact p4 y z
      · rw [z]; exact nx
    · intro σ h4 z
      obtain ⟨kvs, ts, ks, nm, es, g4, e4, d4, p4, l4⟩ := z
      exact ⟨hc_nil, kvs, ts, _, _, es, g4, e4, d4, p4, by omega⟩
  intro σ h4 z
  obtain ⟨kvs, ts, ks, nm, es, g4, e4, d4, p4, l4⟩ := z
  subst es
  rw [w_one]
  simp
  refine b_sortDk e4 d4.1 (by omega) ?_
  have gf : Gr n h (h4 ++ [.lst ((srtB leT ts).map .str)]) := g4.app
  have l4' := g4.len
  simp
  rw [gcR_st gf.stable]
  unfold gcOk
  have ncl : ¬ D.cl h.length (.ref h4.length) = true := by rw [D.cl]; simp; exact l4'
  have eat : (h4 ++ [O.lst ((srtB leT ts).map .str)])[h4.length]? = some (.lst ((srtB leT ts).map .str)) := hAt_last
  rw [if_neg ncl]
  dsimp only
  rw [eat]
  dsimp only
  rw [if_pos (cls_strs _)]
  have gt := (gf.take hn).app (t := [.lst ((srtB leT ts).map .str)])
  have hl2 : ((h4 ++ [O.lst ((srtB leT ts).map .str)]).take h.length).length = h.length := by rw [List.length_take, List.length_append]; omega
  refine q (srtB leT ts) _ gt (by rw [List.length_append, hl2]; rfl) ?_ ⟨srt_ltH d4.2, fun x mx => p4 x (srt_mem mx), by rw [srt_len]; exact l4⟩
  have := hAt_last (h := (h4 ++ [O.lst ((srtB leT ts).map .str)]).take h.length) (o := .lst ((srtB leT ts).map .str))
  rwa [hl2] at this
end LW

namespace LW
open MP PySem
theorem ris_pw' {ts : List Tx} (h : ts.Pairwise fun a b => ltT a b = true) : risT ts = true := by
  rw [risT_iff]
  intro j hj
  have := List.pairwise_iff_getElem.mp h j (j + 1) (by omega) hj (by omega)
  rw [List.getElem?_eq_getElem (show j < ts.length by omega), List.getElem?_eq_getElem hj]
  exact this
theorem lvl {K d : Nat} (h : d ≤ K) : ∃ k, K = k + d := ⟨K - d, by omega⟩
theorem drawK {K n : Nat} {h : Hm} (hK : 1 ≤ K) (hi : HI h n) {L : Int} (hL : 0 < L) (hL2 : L < 2 ^ 200) {Q : D → Hm → Prop} (q : ∀ v h', Gr n h h' → h'.length = h.length → 0 ≤ v → v < L → Q (.int v) h') :
    Sat (callF pgm.pg K if_law_draw [.ref n, .int L] h) Q := by
  obtain ⟨k, rfl⟩ := lvl hK
  exact draw hi hL hL2 q
theorem numberK {K n : Nat} {h : Hm} (hK : 2 ≤ K) (hi : HI h n) {Q : D → Hm → Prop} (q : ∀ v h', Gr n h h' → h'.length = h.length → v.natAbs < 10 ^ 30 → Q (.int v) h') : Sat (callF pgm.pg K if_law_number [.ref n] h) Q := by
  obtain ⟨k, rfl⟩ := lvl hK
  exact number hi q
theorem textK {K n : Nat} {h : Hm} (hK : 3 ≤ K) (hi : HI h n) {Q : D → Hm → Prop} (q : ∀ x h', Gr n h h' → h'.length = h.length → isAz x = true → x.length ≤ 20 → Q (.str x) h') : Sat (callF pgm.pg K if_law_text [.ref n] h) Q := by
  obtain ⟨k, rfl⟩ := lvl hK
  exact text hi q
theorem namesK {K n : Nat} {h : Hm} (hK : 3 ≤ K) (hi : HI h n) {Q : D → Hm → Prop} (q : ∀ (ts : List Tx) (h' : Hm), Gr n h h' → h'.length = h.length + 1 → MP.hAt h' h.length = some (.lst (ts.map .str)) → NmQ ts → Q (.ref h.length) h') : Sat (callF pgm.pg K if_law_names [.ref n] h) Q := by
  obtain ⟨k, rfl⟩ := lvl hK
  exact hnames hi q
theorem value : ∀ (m : Nat) {K n : Nat} {h : Hm}, m + 4 ≤ K → HI h n → ∀ {Q : D → Hm → Prop}, (∀ d h', Gr n h h' → h'.length = h.length → Gw (m + 1) d → Q d h') →
    Sat (callF pgm.pg K if_law_value [.ref n, .int ((m + 1 : Nat) : Int)] h) Q := by
  intro m
  induction m using Nat.strongRecOn with
  | ind m ih =>
  intro K n h hK hi Q q
  obtain ⟨K, rfl⟩ := lvl (show 1 ≤ K by omega)
  refine sat_callH hi (F := df_law_value.fd) rfl rfl ?_
  show Sat (evSs pgm.pg.G (callF pgm.pg K) bf_law_value (startE 6 [.ref n, .int ((m + 1 : Nat) : Int)]) h) _
  unfold bf_law_value startE
  rw [w_cons]
  simp
  refine drawK (by omega) hi (by decide) (by decide) fun kind h1 g1 l1 k0 k1 => ?_
  rw [w_cons]
  simp
  obtain ⟨a, b, w, z, e1, b0, b1⟩ := g1.hd
  have lt1 := hAt_lt e1
  have fin : ∀ {d : D} {h2 : Hm}, Gr n h h2 → Gw (m + 1) d → Gr n h h2 ∧ d.cl h.length = true ∧ ∀ h'', Gr n h h'' → h''.length = h.length → Q d h'' := fun g v => ⟨g, v.cl _, fun h'' g2 l => q _ _ g2 l v⟩
  have g2 : Gr n h (h1.set n (hand a b w (z + 1))) := g1.hand b0 b1
  have e1' : hAt h1 n = some (.lst [.int a, .int b, .int w, .int z]) := e1
  have i3 : ∀ x : D, atI [.int a, .int b, .int w, x] 3 = some x := fun x => rfl
  have x3 : ixN 4 3 = some 3 := rfl
  have e2 : hAt (h1.set n (hand a b w (z + 1))) n = some (.lst [.int a, .int b, .int w, .int (z + 1)]) := hAt_set lt1
  simp [e1', i3, x3]
  have es : h1.set n (.lst [.int a, .int b, .int w, .int (z + 1)]) = h1.set n (hand a b w (z + 1)) := rfl
  rw [es]
  generalize h1.set n (hand a b w (z + 1)) = h2 at *
  -- the plain ones
  have base : Sat (evSs pgm.pg.G (callF pgm.pg K) (.cons (.ite (.cmp .inn (.var 2) (.tup (.cons (.int 0) (.cons (.int 3) (.cons (.int 6) .nil)))))
    (.cons (.ret (.call if_law_number (.cons (.var 0) .nil))) .nil) .nil)
  (.cons (.ite (.cmp .inn (.var 2) (.tup (.cons (.int 1) (.cons (.int 4) (.cons (.int 7) .nil)))))
    (.cons (.ret (.call if_law_text (.cons (.var 0) .nil))) .nil) .nil)
  (.cons (.ret (.ix (.lst (.cons (.bl false) (.cons (.bl true) .nil))) (.call if_law_draw (.cons (.var 0) (.cons (.int 2) .nil))))) .nil))) [some (.ref n), some (.int ((m + 1 : Nat) : Int)), some (.int kind), none, none, none] h2) fun o h' => EK o fun d => Gr n h h' ∧ d.cl h.length = true ∧ ∀ h'', Gr n h h'' → h''.length = h.length → Q d h'' := by
    rw [w_cons]
    have c1 : ∀ b, ∃ t, copB .inn (.v (.int kind)) (.v (.tup [.int b, .int (b + 3), .int (b + 6)])) h2 = some t := fun b => ⟨_, c_int rfl rfl⟩
    obtain ⟨t1, c2⟩ := c1 0
    obtain ⟨t2, c3⟩ := c1 1
    simp at c2 c3
    simp [c2]
    refine ⟨fun _ => ?_, fun _ => ?_⟩
    · rw [w_one]
      simp
      exact numberK (by omega) g2.hd fun v h3 g3 l3 nb => fin (g2.trans g3) (Gw.num (by omega) nb)
    · rw [w_cons]
      simp [c3]
      refine ⟨fun _ => ?_, fun _ => ?_⟩
      · rw [w_one]
        simp
        exact textK (by omega) g2.hd fun v h3 g3 l3 az lx => fin (g2.trans g3) (Gw.txt (by omega) az lx)
      · rw [w_one]
        simp
        refine drawK (by omega) g2.hd (by decide) (by decide) fun v h3 g3 l3 v0 v1 => ?_
        rw [w_ixl]
        refine ok_pick v0 v1 ?_
        intro d hd
        obtain ⟨b, rfl⟩ : ∃ b, d = .bl b := by
          simp at hd
          rcases hd with rfl | rfl <;> exact ⟨_, rfl⟩
        exact fin (g2.trans g3) (Gw.tru (by omega) b)
  rw [w_cons]
  simp [e2, i3]
  refine ⟨fun _ => ⟨fun deep => ⟨fun _ => ?_, fun _ => base⟩, fun _ => base⟩, fun _ => base⟩
  have hm : 0 < m := by omega
  obtain ⟨m', rfl⟩ : ∃ m', m = m' + 1 := ⟨m - 1, by omega⟩
  clear base
  have rek : ∀ {h3 : Hm} {Q' : D → Hm → Prop}, HI h3 n → (∀ d h', Gr n h3 h' → h'.length = h3.length → Gw (m' + 1) d → Q' d h') → Sat (callF pgm.pg K if_law_value [.ref n, .int ((m' + 1 : Nat) : Int)] h3) Q' := fun hi q => ih m' (by omega) (by omega) hi q
  have sub : ((m' + 1 + 1 : Nat) : Int) - 1 = ((m' + 1 : Nat) : Int) := by omega
  rw [w_cons]
  simp
  refine ⟨fun _ => ?_, fun _ => ?_⟩
  · rw [w_cons]
    simp
    refine drawK (by omega) g2.hd (by decide) (by decide) fun a0 h3 g3 l3 a1 a2 => ?_
    rw [w_ixl]
    refine ok_pick a1 a2 ?_
    intro d hd
    obtain ⟨L, rfl, L0, L1⟩ : ∃ L : Int, d = .int L ∧ 0 < L ∧ L ≤ 9 := by
      simp at hd
      rcases hd with rfl | rfl
      · exact ⟨_, rfl, by decide, by decide⟩
      · exact ⟨_, rfl, by decide, by decide⟩
    refine drawK (by omega) g3.hd L0 (by omega) fun c h4 g4 l4 c0 c1 => ?_
    have g24 := (g2.trans g3).trans g4
    rw [w_one]
    simp
    refine ⟨⟨small_ok (by omega) (by omega), by omega⟩, ?_⟩
    refine sat_compN (fun i acc h5 => Gr n h h5 ∧ acc.length = i ∧ ∀ d ∈ acc, Gw (m' + 1) d) ⟨g24, rfl, fun _ m => by cases m⟩ ?_ ?_
    · intro i acc h5 hi5 z
      obtain ⟨g5, la, ga⟩ := z
      refine ⟨hc_nil, ?_⟩
      rw [sat_step]
      simp
      have sub2 : ((m' : Int) + 1) = ((m' + 1 : Nat) : Int) := by omega
      rw [sub2]
      refine rek g5.hd fun d h6 g6 l6 gd => ?_
      refine ⟨g5.trans g6, by first | exact la | simp [la], fun x mx => ?_⟩
      rcases mx with z | z
      · exact ga x z
      · rw [z]; exact gd
    · intro acc h5 z
      obtain ⟨g5, la, ga⟩ := z
      refine ⟨hc_nil, ?_⟩
      exact fin g5 (Gw.lst ga (by omega))
  · rw [w_one]
    simp
    refine namesK (by omega) g2.hd fun ts h3 g3 l3 e3 nq => ?_
    obtain ⟨pw, nmx, lts⟩ := nq
    have hne : h2.length ≠ n := by have := g2.hd.lt; omega
    generalize h2.length = mm at *
    simp [e3]
    refine sat_compX (fun i acc h5 => Gr n h h5 ∧ MP.hAt h5 mm = some (.lst (ts.map .str)) ∧ ∃ ps : List (Tx × Vl), acc = ps.map fdE ∧ ps.map (·.1) = ts.take i ∧ ∀ p ∈ ps, isAz p.1 = true ∧ 0 < p.1.length ∧ p.1.length ≤ 20 ∧ p.2.ok 20 (m' + 1) = true ∧ nbV p.2 = true ∧ rsV p.2 = true) ⟨g2.trans g3, e3, [], rfl, rfl, fun _ m => by cases m⟩ ?_ ?_
    · intro i x acc h5 ex z
      obtain ⟨g5, e5, ps, rfl, ep, ga⟩ := z
      refine ⟨fun p mp => by rw [List.mem_singleton.mp mp]; exact e5, ?_⟩
      rw [List.getElem?_map] at ex
      obtain ⟨nm, en, rfl⟩ := Option.map_eq_some_iff.mp ex
      obtain ⟨az, l0, lx⟩ := nmx nm (List.mem_of_getElem? en)
      rw [sat_step]
      simp
      have sub2 : ((m' : Int) + 1) = ((m' + 1 : Nat) : Int) := by omega
      rw [sub2]
      refine rek g5.hd fun d h6 g6 l6 gd => ?_
      obtain ⟨v, rfl, ok, nb, rs⟩ := gd
      refine ⟨g5.trans g6, g6.get e5 hne, ps ++ [(nm, v)], by simp [fdE], by rw [List.map_append, ep, List.take_add_one, en]; rfl, fun a b mp => ?_⟩
      have mp : (a, b) ∈ ps ∨ (a = nm ∧ b = v) := by simpa using mp
      rcases mp with z | ⟨rfl, rfl⟩
      · exact ga (a, b) z
      · exact ⟨az, l0, by omega, ok, nb, rs⟩
    · intro acc h5 z
      obtain ⟨g5, e5, ps, rfl, ep, ga⟩ := z
      refine ⟨fun p mp => by rw [List.mem_singleton.mp mp]; exact e5, ?_⟩
      rw [List.length_map, List.take_length] at ep
      refine fin g5 (Gw.rcd ga (by rw [ep]; exact ris_pw' pw) ?_)
      have := congrArg List.length ep
      rw [List.length_map] at this
      omega
end LW

namespace LW
open MP PySem
/-! how long a value's text is -/
theorem join_le {B : Nat} : ∀ {ts : List Tx}, (∀ t ∈ ts, t.length ≤ B) → (joinT tSep ts).length ≤ ts.length * (B + 2)
  | [], _ => Nat.zero_le _
  | [x], h => by
    have := h x List.mem_cons_self
    show x.length ≤ 1 * (B + 2)
    omega
  | x :: y :: r, h => by
    rw [joinT_cons, List.length_append, List.length_append, List.length_cons, Nat.succ_mul]
    have h1 := h x List.mem_cons_self
    have h2 := join_le (ts := y :: r) fun t m => h t (List.mem_cons_of_mem _ m)
    have h3 : tSep.length = 2 := rfl
    omega
def BB : Nat → Nat
  | 0 => 0
  | 1 => 33
  | n + 2 => 20 * (BB (n + 1) + 24) + 2
theorem BB_ge : ∀ n, 33 ≤ BB (n + 1)
  | 0 => Nat.le_refl _
  | n + 1 => by
    have := BB_ge n
    show 33 ≤ 20 * (BB (n + 1) + 24) + 2
    omega
theorem sh_len : ∀ (n : Nat) {v : Vl}, v.ok 20 n = true → nbV v = true → (shV v).length ≤ BB n
  | 0, _, ok, _ => absurd (Vl.ok_pos ok) (Nat.lt_irrefl _)
  | n + 1, v, ok, nb => by
    have ge := BB_ge n
    cases v with
    | num i =>
      have := numT_len (k := 30) (by decide) (of_decide_eq_true nb : i.natAbs < 10 ^ 30)
      rw [shV]
      omega
    | txt x =>
      rw [Vl.ok] at ok
      simp at ok
      rw [shV]
      simp
      omega
    | tru b =>
      have : (shV (.tru b)).length ≤ 5 := by cases b <;> decide
      omega
    | lst vs =>
      rw [Vl.ok] at ok
      simp at ok
      have nbs := (nbVs_iff vs).mp nb
      have oks := Vls.ok_iff.mp ok.2
      have j := join_le (B := BB n) (ts := vs.toL.map shV) fun t m => by
        obtain ⟨v, mv, rfl⟩ := List.mem_map.mp m
        exact sh_len n (oks v mv) (nbs v mv)
      rw [List.length_map] at j
      rw [shV, shVs_eq]
      simp
      cases n with
      | zero =>
        have : vs.toL = [] := by
          cases e : vs.toL with
          | nil => rfl
          | cons v r => exact absurd (Vl.ok_pos (oks v (by rw [e]; exact List.mem_cons_self))) (Nat.lt_irrefl _)
        rw [this]
        simp [joinT]
        have b1 : BB 1 = 33 := rfl
        have b2 : BB (0 + 1) = 33 := rfl
        omega
      | succ n =>
        have := Nat.mul_le_mul_right (BB (n + 1) + 2) ok.1
        show _ ≤ 20 * (BB (n + 1) + 24) + 2
        omega
    | rcd fs =>
      rw [Vl.ok] at ok
      simp at ok
      have nbs := (nbFs_iff fs).mp nb
      have oks := Fls.ok_iff.mp ok.2
      have j := join_le (B := BB n + 22) (ts := fs.toL.map fun p => p.1 ++ [58, 32] ++ shV p.2) fun t m => by
        obtain ⟨p, mp, rfl⟩ := List.mem_map.mp m
        have a := sh_len n (oks p mp).2.2 (nbs p mp)
        have b := (oks p mp).2.1
        simp
        omega
      rw [List.length_map] at j
      rw [shV, shFs_eq]
      rw [List.length_cons, List.length_append]
      cases n with
      | zero =>
        have : fs.toL = [] := by
          cases e : fs.toL with
          | nil => rfl
          | cons v r => exact absurd (Vl.ok_pos (oks v (by rw [e]; exact List.mem_cons_self)).2.2) (Nat.lt_irrefl _)
        rw [this]
        simp [joinT]
        have b1 : BB 1 = 33 := rfl
        have b2 : BB (0 + 1) = 33 := rfl
        omega
      | succ n =>
        have := Nat.mul_le_mul_right (BB (n + 1) + 22 + 2) ok.1
        show _ ≤ 20 * (BB (n + 1) + 24) + 2
        simp only [List.length_singleton]
        omega
theorem BB_five : BB 5 ≤ 9400000 := by decide
end LW

namespace LW
open MP PySem
/-! small values, chains -/
def Gc (i : Nat) (d : D) : Prop := ∃ v : Vl, d = v.enc ∧ v.ok 20 (i + 1) = true ∧ nbV v = true ∧ rsV v = true ∧ (shV v).length ≤ 33 + 40 * i
theorem Gc.cl {i : Nat} {d : D} (g : Gc i d) (m : Nat) : d.cl m = true := by
  obtain ⟨v, rfl, ok, _⟩ := g
  exact Gv.cl ⟨v, rfl, ok⟩ m
theorem Gc.up {i j : Nat} (h : i ≤ j) {d : D} (g : Gc i d) : Gc j d := by
  obtain ⟨v, e, ok, nb, rs, l⟩ := g
  exact ⟨v, e, Vl.ok_up (Nat.le_refl _) (by omega) ok, nb, rs, by omega⟩
theorem Gw.gc {d : D} (g : Gw 1 d) : Gc 0 d := by
  obtain ⟨v, e, ok, nb, rs⟩ := g
  exact ⟨v, e, ok, nb, rs, sh_len 1 ok nb⟩
theorem gc_lst1 {i : Nat} {d : D} (g : Gc i d) : Gc (i + 1) (.tup [.str [108, 105, 115, 116], .tup [d]]) := by
  obtain ⟨v, rfl, ok, nb, rs, l⟩ := g
  refine ⟨.lst (.cons v .nil), rfl, ?_, ?_, ?_, ?_⟩
  · rw [Vl.ok, Vls.toL, Vls.toL, Vls.ok, Vls.ok, Nat.add_sub_cancel, ok]; rfl
  · rw [nbV, nbVs, nb, nbVs]; rfl
  · rw [rsV, rsVs, rs, rsVs]; rfl
  · rw [shV, shVs, shVs]
    show (91 :: (shV v ++ [93]) : Tx).length ≤ _
    simp
    omega
theorem gc_lst2 {i : Nat} {d : D} (g : Gc i d) : Gc (i + 1) (.tup [.str [108, 105, 115, 116], .tup [.int 0, d]]) := by
  obtain ⟨v, rfl, ok, nb, rs, l⟩ := g
  refine ⟨.lst (.cons (.num 0) (.cons v .nil)), rfl, ?_, ?_, ?_, ?_⟩
  · rw [Vl.ok, Vls.toL, Vls.toL, Vls.toL, Vls.ok, Vls.ok, Vls.ok, Nat.add_sub_cancel, ok, Vl.ok]; simp
  · rw [nbV, nbVs, nbVs, nb, nbVs]; rfl
  · rw [rsV, rsVs, rsVs, rs, rsVs]; rfl
  · rw [shV, shVs, shVs, shVs]
    have e0 : shV (.num 0) = [48] := by rw [shV]; decide
    rw [e0]
    show (91 :: (([48] ++ tSep ++ shV v) ++ [93]) : Tx).length ≤ _
    simp [tSep]
    omega
theorem gc_rcd1 {i : Nat} {d : D} (g : Gc i d) : Gc (i + 1) (.tup [.str [114, 101, 99, 111, 114, 100], .tup [.tup [.str [97], d]]]) := by
  obtain ⟨v, rfl, ok, nb, rs, l⟩ := g
  refine ⟨.rcd (.cons [97] v .nil), rfl, ?_, ?_, ?_, ?_⟩
  · rw [Vl.ok, Fls.toL, Fls.toL, Fls.ok, Fls.ok, Nat.add_sub_cancel, ok]; rfl
  · rw [nbV, nbFs, nb, nbFs]; rfl
  · rw [rsV, rsFs, rs, rsFs]; rfl
  · rw [shV, shFs, shFs]
    show (123 :: (([97] ++ [58, 32] ++ shV v) ++ [125]) : Tx).length ≤ _
    simp
    omega
theorem gc_rcd2 {i : Nat} {d : D} (g : Gc i d) : Gc (i + 1) (.tup [.str [114, 101, 99, 111, 114, 100], .tup [.tup [.str [97], .int 1], .tup [.str [98], d]]]) := by
  obtain ⟨v, rfl, ok, nb, rs, l⟩ := g
  refine ⟨.rcd (.cons [97] (.num 1) (.cons [98] v .nil)), rfl, ?_, ?_, ?_, ?_⟩
  · rw [Vl.ok, Fls.toL, Fls.toL, Fls.toL, Fls.ok, Fls.ok, Fls.ok, Nat.add_sub_cancel, ok, Vl.ok]; simp; decide
  · rw [nbV, nbFs, nbFs, nb, nbFs]; rfl
  · rw [rsV, rsFs, rsFs, rs, rsFs]; rfl
  · rw [shV, shFs, shFs, shFs]
    have e0 : shV (.num 1) = [49] := by rw [shV]; decide
    rw [e0]
    show (123 :: (([97] ++ [58, 32] ++ [49] ++ tSep ++ ([98] ++ [58, 32] ++ shV v)) ++ [125]) : Tx).length ≤ _
    simp [tSep]
    omega
theorem small {k n : Nat} {h : Hm} (hi : HI h n) {Q : D → Hm → Prop} (q : ∀ d h', Gr n h h' → h'.length = h.length → Gc 0 d → Q d h') :
    Sat (callF pgm.pg (k + 2) if_law_small [.ref n] h) Q := by
  refine sat_callH hi (F := df_law_small.fd) rfl rfl ?_
  show Sat (evSs pgm.pg.G (callF pgm.pg (k + 1)) bf_law_small (startE 1 [.ref n]) h) _
  unfold bf_law_small startE
  rw [w_one]
  simp
  refine draw hi (by decide) (by decide) fun v h1 g1 l1 v0 v1 => ?_
  rw [w_ixl]
  refine ok_pick v0 v1 ?_
  intro d hd
  have gd : Gc 0 d := by
    simp only [List.mem_cons, List.mem_nil_iff, or_false] at hd
    rcases hd with rfl | rfl | rfl | rfl | rfl | rfl | rfl | rfl
    · exact (Gw.num (by decide) (by decide)).gc
    · exact (Gw.num (by decide) (by decide)).gc
    · exact (Gw.num (by decide) (by decide)).gc
    · exact (Gw.txt (by decide) rfl (by decide)).gc
    · exact (Gw.txt (by decide) rfl (by decide)).gc
    · exact (Gw.tru (by decide) _).gc
    · exact (Gw.tru (by decide) _).gc
    · exact (Gw.num (by decide) (by decide)).gc
  exact ⟨g1, gd.cl _, fun h'' g l => q _ _ g l gd⟩
def ChM (n : Nat) (h : Hm) (most : Int) (i : Nat) (σ : MP.Env) (h4 : Hm) : Prop := ∃ d o1 o2, σ = [some (.ref n), some (.int most), some d, o1, o2] ∧ Gr n h h4 ∧ Gc i d
theorem chain {k n : Nat} {h : Hm} (hi : HI h n) {M : Nat} (hM : 0 < M) (hM2 : M < 1000) {Q : D → Hm → Prop} (q : ∀ d h', Gr n h h' → h'.length = h.length → Gc (M - 1) d → Q d h') :
    Sat (callF pgm.pg (k + 3) if_law_chain [.ref n, .int (M : Int)] h) Q := by
  refine sat_callH hi (F := df_law_chain.fd) rfl rfl ?_
  show Sat (evSs pgm.pg.G (callF pgm.pg (k + 2)) bf_law_chain (startE 5 [.ref n, .int (M : Int)]) h) _
  unfold bf_law_chain startE
  rw [w_cons]
  simp
  refine small hi fun v h1 g1 l1 gv => ?_
  have fin : ∀ {d : D} {h2 : Hm}, Gr n h h2 → Gc (M - 1) d → Gr n h h2 ∧ d.cl h.length = true ∧ ∀ h'', Gr n h h'' → h''.length = h.length → Q d h'' := fun g v => ⟨g, v.cl _, fun h'' g2 l => q _ _ g2 l v⟩
  rw [w_cons]
  simp
  refine draw g1.hd (by omega) (by omega) fun c h2 g2 l2 c0 c1 => ?_
  simp
  refine ⟨⟨small_ok (by omega) (by omega), by omega⟩, ?_⟩
  refine sat_forN (ChM n h M) ⟨v, _, _, rfl, g1.trans g2, gv⟩ ?_ ?_
  · intro i σ h4 hlt z
    obtain ⟨d, o1, o2, es, g4, gd⟩ := z
    subst es
    refine ⟨hc_nil, ?_⟩
    rw [tg_nm, ok_some, w_cons]
    simp
    have hn := hi.lt
    have l4 := g4.len
    generalize ew : ([.lst _] : Hm) = t
    have em : hAt (h4 ++ t) h4.length = some (.lst [.tup [.str [108, 105, 115, 116], .tup [d]], .tup [.str [108, 105, 115, 116], .tup [.int 0, d]], .tup [.str [114, 101, 99, 111, 114, 100], .tup [.tup [.str [97], d]]]]) := by rw [hAt_app0, ← ew]; rfl
    have gm := g4.app (t := t)
    generalize h4 ++ t = h5 at *
    rw [w_one]
    simp [em]
    refine ⟨by decide, ?_⟩
    refine draw gm.hd (by decide) (by decide) fun u h6 g6 l6 u0 u1 => ?_
    rw [w_ixl]
    refine ok_pick u0 u1 ?_
    intro x hx
    have gx : Gc (i + 1) x := by
      simp only [List.mem_cons, List.mem_nil_iff, or_false] at hx
      rcases hx with rfl | rfl | rfl | rfl
      · exact gc_lst1 gd
      · exact gc_lst2 gd
      · exact gc_rcd1 gd
      · exact gc_rcd2 gd
    exact ⟨x, _, _, rfl, gm.trans g6, gx⟩
  · intro σ h4 z
    obtain ⟨d, o1, o2, es, g4, gd⟩ := z
    subst es
    refine ⟨hc_nil, ?_⟩
    simp
    rw [w_one]
    simp
    exact fin g4 (gd.up (by omega))
end LW

namespace LW
open MP PySem
/-! wide values, all values drawn -/
def Gd (d : D) : Prop := ∃ (v : Vl) (n : Nat), d = v.enc ∧ n ≤ 20 ∧ v.ok 60 n = true ∧ nbV v = true ∧ rsV v = true ∧ (shV v).length ≤ 9400000
theorem Gd.cl {d : D} (g : Gd d) (m : Nat) : d.cl m = true := by
  obtain ⟨v, n, rfl, _, ok, _⟩ := g
  exact Gv.cl ⟨v, rfl, ok⟩ m
theorem Gc.gd {i : Nat} {d : D} (g : Gc i d) (h : i ≤ 19) : Gd d := by
  obtain ⟨v, e, ok, nb, rs, l⟩ := g
  exact ⟨v, i + 1, e, by omega, Vl.ok_up (by omega) (Nat.le_refl _) ok, nb, rs, by omega⟩
theorem Gw.gd {d : D} (g : Gw 5 d) : Gd d := by
  obtain ⟨v, e, ok, nb, rs⟩ := g
  exact ⟨v, 5, e, by omega, Vl.ok_up (by omega) (Nat.le_refl _) ok, nb, rs, Nat.le_trans (sh_len 5 ok nb) BB_five⟩
def nameK (k : Nat) : Tx := [97 + k / 3, 97 + k % 3]
theorem at_l : ∀ i : Nat, i < 59 → atI ([97, 98, 99, 100, 101, 102, 103, 104, 105, 106, 107, 108, 109, 110, 111, 112, 113, 114, 115, 116, 117, 118, 119, 120, 121, 122] : Tx) ((i : Int) / 3) = some (97 + i / 3) := by decide
theorem at_abc : ∀ i : Nat, i < 59 → atI ([97, 98, 99] : Tx) ((i : Int) % 3) = some (97 + i % 3) := by decide
theorem name_ris : ∀ c, c < 60 → risT ((List.range c).map nameK) = true := by decide +kernel
theorem name_ok : ∀ k, k < 60 → isAz (nameK k) = true := by decide +kernel
theorem gc_vals : ∀ {ds : List D}, (∀ d ∈ ds, Gc 0 d) → ∃ vs : List Vl, ds = vs.map Vl.enc ∧ ∀ v ∈ vs, v.ok 20 1 = true ∧ nbV v = true ∧ rsV v = true ∧ (shV v).length ≤ 33
  | [], _ => ⟨[], rfl, fun _ m => by cases m⟩
  | d :: ds, h => by
    obtain ⟨v, e, r⟩ := h d List.mem_cons_self
    obtain ⟨vs, e2, r2⟩ := gc_vals (ds := ds) fun d m => h d (List.mem_cons_of_mem _ m)
    refine ⟨v :: vs, by rw [List.map_cons, e, e2], fun u mu => ?_⟩
    rcases List.mem_cons.mp mu with z | z
    · rw [z]; exact r
    · exact r2 u z
theorem gd_lst {ds : List D} (h : ∀ d ∈ ds, Gc 0 d) (l : ds.length ≤ 60) : Gd (.tup [.str tList, .tup ds]) := by
  obtain ⟨vs, rfl, r⟩ := gc_vals h
  rw [List.length_map] at l
  refine ⟨.lst (Vls.of vs), 2, by rw [Vl.enc, Vls.encs_eq, Vls.toL_of], by decide, ?_, ?_, ?_, ?_⟩
  · rw [Vl.ok, Vls.toL_of]
    simp
    exact ⟨l, Vls.ok_iff.mpr fun v mv => Vl.ok_up (by decide) (Nat.le_refl _) (r v (by rw [Vls.toL_of] at mv; exact mv)).1⟩
  · show nbVs _ = true
    rw [nbVs_iff, Vls.toL_of]
    exact fun v mv => (r v mv).2.1
  · show rsVs _ = true
    rw [rsVs_iff, Vls.toL_of]
    exact fun v mv => (r v mv).2.2.1
  · have j := join_le (B := 33) (ts := vs.map shV) fun t m => by
      obtain ⟨v, mv, rfl⟩ := List.mem_map.mp m
      exact (r v mv).2.2.2
    rw [List.length_map] at j
    rw [shV, shVs_eq, Vls.toL_of]
    simp
    omega
theorem gd_rcd {c : Nat} {ps : List (Tx × Vl)} (ep : ps.map (·.1) = (List.range c).map nameK) (r : ∀ p ∈ ps, p.2.ok 20 1 = true ∧ nbV p.2 = true ∧ rsV p.2 = true ∧ (shV p.2).length ≤ 33) (l : c < 60) : Gd (.tup [.str tRec, .tup (ps.map fdE)]) := by
  have lp : ps.length = c := by
    have := congrArg List.length ep
    simpa using this
  have nm : ∀ p ∈ ps, isAz p.1 = true ∧ p.1.length = 2 := fun p mp => by
    have : p.1 ∈ ps.map (·.1) := List.mem_map.mpr ⟨p, mp, rfl⟩
    rw [ep] at this
    obtain ⟨k, mk, e⟩ := List.mem_map.mp this
    rw [← e]
    exact ⟨name_ok k (by have := List.mem_range.mp mk; omega), rfl⟩
  refine ⟨.rcd (Fls.of ps), 2, by rw [Vl.enc, Fls.encs_eq, Fls.toL_of]; rfl, by decide, ?_, ?_, ?_, ?_⟩
  · rw [Vl.ok, Fls.toL_of]
    simp
    exact ⟨by omega, Fls.ok_iff.mpr fun p mp => by
      rw [Fls.toL_of] at mp
      exact ⟨(nm p mp).1, by rw [(nm p mp).2]; decide, Vl.ok_up (by decide) (Nat.le_refl _) (r p mp).1⟩⟩
  · show nbFs _ = true
    rw [nbFs_iff, Fls.toL_of]
    exact fun p mp => (r p mp).2.1
  · rw [rsV, Fls.toL_of, Bool.and_eq_true, Bool.and_eq_true]
    refine ⟨(rsFs_iff _).mpr fun p mp => ?_, by rw [ep]; exact name_ris c l, ?_⟩
    · rw [Fls.toL_of] at mp
      exact (r p mp).2.2.1
    · rw [List.all_eq_true]
      intro p mp
      have := (nm p mp).2
      cases e : p.1 with
      | nil => rw [e] at this; cases this
      | cons a b => rfl
  · have j := join_le (B := 37) (ts := ps.map fun p => p.1 ++ [58, 32] ++ shV p.2) fun t m => by
      obtain ⟨p, mp, rfl⟩ := List.mem_map.mp m
      have a := (r p mp).2.2.2
      have b := (nm p mp).2
      simp
      omega
    rw [List.length_map] at j
    rw [shV, shFs_eq, Fls.toL_of]
    rw [List.length_cons, List.length_append, List.length_singleton]
    omega
theorem wide {k n : Nat} {h : Hm} (hi : HI h n) {Q : D → Hm → Prop} (q : ∀ d h', Gr n h h' → h'.length = h.length → Gd d → Q d h') :
    Sat (callF pgm.pg (k + 3) if_law_wide [.ref n] h) Q := by
  refine sat_callH hi (F := df_law_wide.fd) rfl rfl ?_
  show Sat (evSs pgm.pg.G (callF pgm.pg (k + 2)) bf_law_wide (startE 5 [.ref n]) h) _
  unfold bf_law_wide startE
  rw [w_cons]
  simp
  refine draw hi (by decide) (by decide) fun kind h1 g1 l1 k0 k1 => ?_
  rw [w_cons]
  simp
  refine draw g1.hd (by decide) (by decide) fun c h2 g2 l2 c0 c1 => ?_
  simp
  refine ⟨⟨small_ok (by omega) (by omega), by omega⟩, ?_⟩
  refine sat_compN (fun i acc h5 => Gr n h h5 ∧ acc.length = i ∧ ∀ d ∈ acc, Gc 0 d) ⟨g1.trans g2, rfl, fun _ m => by cases m⟩ ?_ ?_
  · intro i acc h5 hi5 z
    obtain ⟨g5, la, ga⟩ := z
    refine ⟨hc_nil, ?_⟩
    rw [sat_step]
    simp
    refine small g5.hd fun d h6 g6 l6 gd => ?_
    refine ⟨g5.trans g6, la, fun x mx => ?_⟩
    rcases mx with z | z
    · exact ga x z
    · rw [z]; exact gd
  intro acc h5 z
  obtain ⟨g5, la, ga⟩ := z
  refine ⟨hc_nil, ?_⟩
  have fin : ∀ {d : D} {h2 : Hm}, Gr n h h2 → Gd d → Gr n h h2 ∧ d.cl h.length = true ∧ ∀ h'', Gr n h h'' → h''.length = h.length → Q d h'' := fun g v => ⟨g, v.cl _, fun h'' g2 l => q _ _ g2 l v⟩
  have em : hAt (h5 ++ [.lst acc]) h5.length = some (.lst acc) := hAt_last
  have gm := g5.app (t := [.lst acc])
  generalize h5 ++ [.lst acc] = h6 at *
  generalize h5.length = m at *
  rw [w_cons]
  simp
  refine ⟨fun _ => ?_, fun _ => ?_⟩
  · rw [w_one]
    simp [em]
    exact fin gm (gd_lst ga (by omega))
  rw [w_cons]
  simp
  rw [w_one]
  simp [em]
  refine ⟨⟨small_ok (by omega) (by omega), by show _ ≤ 16777216; omega⟩, ?_⟩
  have d3 : divOk 3 = true := by decide
  refine sat_compN (fun i ac2 h7 => h7 = h6 ∧ ∃ ps : List (Tx × Vl), ac2 = ps.map fdE ∧ ps.map (·.1) = (List.range i).map nameK ∧ ∀ p ∈ ps, p.2.ok 20 1 = true ∧ nbV p.2 = true ∧ rsV p.2 = true ∧ (shV p.2).length ≤ 33) ⟨rfl, [], rfl, rfl, fun _ m => by cases m⟩ ?_ ?_
  · intro i ac2 h7 hi7 z
    obtain ⟨eh, ps, rfl, ep, ga2⟩ := z
    subst eh
    refine ⟨hc_nil, ?_⟩
    rw [sat_step]
    have i1 : i < acc.length := hi7
    have e1 := at_l i (by omega)
    have e2 := at_abc i (by omega)
    have e3 : atI acc (i : Int) = some acc[i] := by rw [atI_nat, List.getElem?_eq_getElem i1]
    obtain ⟨v, ev, ok, nb, rs, l⟩ := ga _ (List.getElem_mem i1)
    simp [d3, e1, e2, em, e3]
    refine ⟨by decide, by decide, by decide, ps ++ [(nameK i, v)], by simp [fdE, nameK, ev], by rw [List.map_append, ep, List.range_succ, List.map_append]; rfl, fun a b mp => ?_⟩
    have mp : (a, b) ∈ ps ∨ (a = nameK i ∧ b = v) := by simpa using mp
    rcases mp with z | ⟨rfl, rfl⟩
    · exact ga2 (a, b) z
    · exact ⟨ok, nb, rs, l⟩
  · intro ac2 h7 z
    obtain ⟨eh, ps, rfl, ep, ga2⟩ := z
    subst eh
    refine ⟨hc_nil, ?_⟩
    exact fin gm (gd_rcd ep ga2 (by omega))
theorem drawn {K n : Nat} {h : Hm} (hK : 9 ≤ K) (hi : HI h n) {Q : D → Hm → Prop} (q : ∀ d h', Gr n h h' → h'.length = h.length → Gd d → Q d h') :
    Sat (callF pgm.pg K if_law_drawn [.ref n, .int 20] h) Q := by
  obtain ⟨k, rfl⟩ := lvl hK
  refine sat_callH hi (F := df_law_drawn.fd) rfl rfl ?_
  show Sat (evSs pgm.pg.G (callF pgm.pg (k + 8)) bf_law_drawn (startE 3 [.ref n, .int 20]) h) _
  unfold bf_law_drawn startE
  have fin : ∀ {d : D} {h2 : Hm}, Gr n h h2 → Gd d → Gr n h h2 ∧ d.cl h.length = true ∧ ∀ h'', Gr n h h'' → h''.length = h.length → Q d h'' := fun g v => ⟨g, v.cl _, fun h'' g2 l => q _ _ g2 l v⟩
  rw [w_cons]
  simp
  refine drawK (by omega) hi (by decide) (by decide) fun way h1 g1 l1 k0 k1 => ?_
  rw [w_cons]
  simp
  refine ⟨fun _ => ?_, fun _ => ?_⟩
  · rw [w_one]
    simp
    exact wide (k := k + 5) g1.hd fun d h2 g2 l2 gd => fin (g1.trans g2) gd
  rw [w_cons]
  simp
  refine ⟨fun _ => ?_, fun _ => ?_⟩
  · rw [w_one]
    simp
    exact chain (k := k + 5) (M := 20) g1.hd (by decide) (by decide) fun d h2 g2 l2 gd => fin (g1.trans g2) (gd.gd (by decide))
  rw [w_one]
  simp
  exact value 4 (by omega) g1.hd fun d h2 g2 l2 gd => fin (g1.trans g2) gd.gd
end LW

namespace LW
open MP PySem
theorem right_gd {K : Nat} {h : Hm} {d : D} (hK : 72 ≤ K) (g : Gd d) {Q : D → Hm → Prop} (q : Q (.bl true) h) : Sat (callF pgm.pg K if_law_right [d] h) Q := by
  obtain ⟨v, n, rfl, hn, ok, nb, rs, l⟩ := g
  exact law_right hn hK ok (by omega) nb rs (nice_up (by omega) (Vl.nice (Vl.ok_up (Nat.le_refl _) hn ok) (by decide))) (by rw [Vl.al]; exact Vl.sm_self v) l q
def LI (ns : List Int) (σ : MP.Env) (h : Hm) : Prop := ∃ o1 o2 o3 o4 o5, σ = [some (.fz (ns.map .int)), o1, o2, o3, o4, o5]
theorem gd0 {d : D} (g : Gw 1 d) : Gd d := g.gc.gd (by decide)
theorem gd_nil : Gd (.tup [.str tList, .tup []]) := gd_lst (ds := []) (fun _ m => by cases m) (by decide)
theorem gd_nilr : Gd (.tup [.str tRec, .tup []]) := gd_rcd (c := 0) (ps := []) rfl (fun _ m => by cases m) (by decide)
theorem gd_two : Gd (.tup [.str tList, .tup [.tup [.str tList, .tup []], .tup [.str tRec, .tup []]]]) := ⟨.lst (.cons (.lst .nil) (.cons (.rcd .nil) .nil)), 2, rfl, by decide, rfl, rfl, rfl, by decide⟩
theorem law_ok (ns : List Int) (hl : ns.length ≤ 63) {K : Nat} (hK : 75 ≤ K) {Q : D → Hm → Prop} (q : ∀ h', Q (.bl true) h') : Sat (callF pgm.pg K if_law [.fz (ns.map .int)] []) Q := by
  obtain ⟨K, rfl⟩ : ∃ k, K = k + 1 := ⟨K - 1, by omega⟩
  refine sat_callG (F := df_law.fd) rfl rfl ?_
  show Sat (evSs pgm.pg.G (callF pgm.pg K) bf_law (startE 6 [.fz (ns.map .int)]) []) _
  unfold bf_law startE
  rw [w_cons]
  simp
  refine sat_seq (LI ns) ?_ ?_
  · simp
    have all : ∀ d ∈ [D.int 0, D.int (-1), D.str [], D.str [116, 114, 117, 101], D.bl true, D.bl false, D.tup [D.str [108, 105, 115, 116], D.tup []], D.tup [D.str [114, 101, 99, 111, 114, 100], D.tup []]] ++ [D.tup [D.str [108, 105, 115, 116], D.tup [D.tup [D.str [108, 105, 115, 116], D.tup []], D.tup [D.str [114, 101, 99, 111, 114, 100], D.tup []]]]], Gd d := fun d md => by
      simp only [List.cons_append, List.nil_append, List.mem_cons, List.mem_nil_iff, or_false] at md
      rcases md with rfl | rfl | rfl | rfl | rfl | rfl | rfl | rfl | rfl
      · exact gd0 (Gw.num (by decide) (by decide))
      · exact gd0 (Gw.num (by decide) (by decide))
      · exact gd0 (Gw.txt (by decide) rfl (by decide))
      · exact gd0 (Gw.txt (by decide) rfl (by decide))
      · exact gd0 (Gw.tru (by decide) _)
      · exact gd0 (Gw.tru (by decide) _)
      · exact gd_nil
      · exact gd_nilr
      · exact gd_two
    refine ⟨by decide, ?_⟩
    refine sat_forX (fun _ => LI ns) ⟨_, _, _, _, _, rfl⟩ ?_ (fun σ h z => ⟨hc_nil, z⟩)
    intro i d σ h' ex z
    obtain ⟨o1, o2, o3, o4, o5, rfl⟩ := z
    refine ⟨hc_nil, ?_⟩
    rw [tg_nm, ok_some, w_one]
    simp
    refine right_gd (by omega) (all d (List.mem_of_getElem? ex)) ?_
    simp
    exact ⟨_, _, _, _, _, rfl⟩
  intro σ h1 z
  obtain ⟨o1, o2, o3, o4, o5, rfl⟩ := z
  refine sat_seq (LI ns) ?_ ?_
  · simp
    refine sat_cells ns (by decide) (by decide) (LI ns) ⟨_, _, _, _, _, rfl⟩ ?_ (fun σ h z => z)
    intro i cell σ h2 hi z
    obtain ⟨o1, o2, o3, o4, o5, rfl⟩ := z
    obtain ⟨k, rfl⟩ : ∃ k, K = k + 1 := ⟨K - 1, by omega⟩
    simp
    rw [w_cons]
    simp
    refine the_hand (by omega) (by omega) fun a b w z b0 b1 => ?_
    have hi3 : HI (h2 ++ [hand a b w z]) h2.length := ⟨a, b, w, z, hAt_last, b0, b1⟩
    generalize h2 ++ [hand a b w z] = h3 at *
    generalize h2.length = n at *
    rw [w_one]
    simp
    refine drawn (by omega) hi3 fun d h4 g4 l4 gd => ?_
    refine right_gd (by omega) gd ?_
    simp
    exact ⟨_, _, _, _, _, rfl⟩
  intro σ h2 z
  obtain ⟨o1, o2, o3, o4, o5, rfl⟩ := z
  rw [w_one]
  simp
  refine ⟨⟨small_ok (by decide) (by decide), by decide⟩, ?_⟩
  refine sat_compN (fun i acc h' => acc.length = i ∧ ∀ d ∈ acc, Gc 0 d) ⟨rfl, fun _ m => by cases m⟩ ?_ ?_
  · intro i acc h' hi z
    obtain ⟨la, ga⟩ := z
    refine ⟨hc_nil, ?_⟩
    rw [sat_step]
    have mo : mulOk (i : Int) 7 = true := by
      have : ∀ i : Nat, i < 60 → mulOk (i : Int) 7 = true := by decide
      exact this i hi
    simp [mo]
    refine ⟨la, fun d md => ?_⟩
    rcases md with w | w
    · exact ga d w
    · rw [w]
      exact (Gw.num (by decide) (Nat.lt_of_le_of_lt (show _ ≤ 1000 by omega) (by decide))).gc
  intro acc h3 z
  obtain ⟨la, ga⟩ := z
  refine ⟨hc_nil, ?_⟩
  refine right_gd (by omega) (gd_lst ga (by omega)) ?_
  exact sat_gcb q
theorem plain (ns : List Int) (hl : ns.length ≤ 63) : ∃ h', callF pgm.pg 90 if_law [.fz (ns.map .int)] [] = .ok (.bl true) h' := by
  obtain ⟨d, h', e, rfl⟩ := (law_ok ns hl (K := 90) (by decide) (Q := fun d _ => d = .bl true) fun _ => rfl).ex
  exact ⟨h', e⟩
end LW

open PySem PySem.W PySem.Calls PyProof.Rows
theorem PySem.Challenge.cw_allmeet_k04_values_written_holds : PySem.Challenge.rw_allmeet_k04_values_written.Holds := by
  w_on; o_law
  refine HandSHeadRun.head_any (r := OpenLaw.row LW.row) (q := view (OpenLaw.row LW.row).prog [LW.lawAt]) (H := LW.hk) (ob := LW.ob) (M := LW.STEPS) (loose := LW.loose) (d := HandSHeadRun.topDef (OpenLaw.row LW.row).prog LW.lawAt) (kwd := []) LW.ob_eq
    (by kernel_rfl) (fun s => by kernel_rfl) LW.run (by kernel_rfl) (by kernel_rfl) (by kernel_rfl) (by rfl) (by first | assumption | decide +kernel) (by decide +kernel) ⟨rfl, rfl, rfl, rfl, rfl, by decide +kernel⟩ ?hw ?hc
  case hw => w_witness2
  case hc => exact MP.law_walk (l := LW.row) (p := LW.pgm) (fn := LW.fn) (k := 90) (i := LW.lawIx) (dl := LW.df_law) rfl (by kernel_rfl) ⟨rfl, by decide, by decide⟩ LW.law_named LW.checked rfl rfl rfl (by decide +kernel) LW.plain


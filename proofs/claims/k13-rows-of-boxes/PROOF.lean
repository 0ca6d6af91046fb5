import PyProof.Rows.All
import Wide.All
import OpenK.AllK
import Wide.FinOn
import HandS.ForMost
import HandS.Style
import HandS.Flow
import HandS.Wide
import HandS.TupAny
import HandS.TupMul
import HandS.Deep
import HandS.IsInst
import HandS.Walk
import HandS.Conv
import HandS.Zip
import HandS.ForExc
import HandS.TryMany
import HandS.Strs
import HandS.More
import PyProof.StrOps2
import PyProof.P3In
import HandS.SortInts
import HandS.SortRule
import HandS.TupSets
import KE.GoesEnum
import KE.GoesZip
import KE.GoesMore
import HandS.WordsExc
import HandS.Ends
import PySem.Challenge.RW_fewwrongs_k13_rows_of_boxes
set_option Elab.async false
set_option linter.all false
set_option maxRecDepth 100000
set_option maxHeartbeats 4000000
/-! P1: values, expressions, statements and their evaluator. -/
namespace Pz
open PySem

abbrev D := PyData
abbrev Key := L2.Key

structure Exc where
  c : Nat
  fs : List (Str × D)
/-- a value: frozen (leaf), or an owned tree of lists and dicts -/
inductive T where
  | leaf (d : D)
  | lst (ts : List T)
  | dct (kvs : List (Key × T))
  | rng (lo hi : Int)
  | scr (ns : List Int)
  /-- what stands here is lent to a slot: the object's address -/
  | hole (a : Nat)
  /-- an exception that a suite holds: the object's address, its dict's -/
  | xcp (a dd : Nat) (x : Exc)

/-- the pseudo call that tells which exception the suite holds -/
def xfIx : Nat := 999999
abbrev Rho := List (Option T)
inductive R (α : Type) where
  | ok (a : α) (ρ : Rho)
  | exc (x : Exc) (ρ : Rho)
  | bad
/-- a call's answer: what it returns, and what the owned arguments are now -/
inductive FR where
  | ret (t : T) (outs : List (Option T))
  | exc (x : Exc) (outs : List (Option T))
  | bad
def R.bind {α β : Type} : R α → (α → Rho → R β) → R β
  | .ok a ρ, f => f a ρ
  | .exc x ρ, _ => .exc x ρ
  | .bad, _ => .bad
def R.of {α : Type} : Option α → Rho → R α
  | some a, ρ => .ok a ρ
  | none, _ => .bad

/-! ### operations on data -/
def leaves : List T → Option (List D)
  | [] => some []
  | .leaf d :: r => match leaves r with | some ds => some (d :: ds) | none => none
  | _ :: _ => none
/-- read as data: a leaf, or a list of leaves -/
def T.flat : T → Option D
  | .leaf d => some d
  | .lst ts => match leaves ts with | some ds => some (.list ds) | none => none
  | _ => none
mutual
/-- frozen -/
def T.toD : T → Option D
  | .leaf d => some d
  | .lst ts => match toDs ts with | some ds => some (.list ds) | none => none
  | _ => none
def toDs : List T → Option (List D)
  | [] => some []
  | t :: r => match t.toD with
    | some d => match toDs r with | some ds => some (d :: ds) | none => none
    | none => none
end
def lf (d : D) : T := .leaf d
def T.isLeaf : T → Bool
  | .leaf _ => true
  | _ => false
/-- may stand in two places -/
def T.free : T → Bool
  | .leaf _ | .rng _ _ | .scr _ => true
  | _ => false
def T.truth : T → Option Bool
  | .leaf .none => some false
  | .leaf (.bool b) => some b
  | .leaf (.int i) => some (i != 0)
  | .leaf (.str x) => if x.length ≤ sizeLine then some (x.length != 0) else none
  | .leaf (.list xs) => some (!xs.isEmpty)
  | .leaf (.tuple xs) => some (!xs.isEmpty)
  | .lst ts => some (!ts.isEmpty)
  | .dct kvs => some (!kvs.isEmpty)
  | .scr ns => some (!ns.isEmpty)
  | _ => none

def getK (kvs : List (Key × T)) (k : Key) : Option T :=
  match kvs with
  | [] => none
  | (j, u) :: r => if j = k then some u else getK r k
inductive Op where
  | add | sub | mul | fdiv | mod | pow | shl | shr | band | bor | bxor
  deriving DecidableEq
inductive Cm where
  | eq | ne | lt | le | gt | ge | isin | notin | is | isnot
  deriving DecidableEq

def mulOk (i j : Int) : Bool := decide (i.natAbs < 2 ^ 63) || decide (j.natAbs < 2 ^ 63) || decide (i.natAbs.log2 + j.natAbs.log2 < 1000000)
def divOk (j : Int) : Bool := decide (0 < j) && (Nat.ble j.natAbs 1073741823 || decide (j.natAbs.log2 < 9000))
def powOk (i j : Int) : Bool := decide (0 ≤ j) && Nat.ble j.natAbs 1000000 && decide (i.natAbs < 2 ^ 64)
def intOp : Op → Int → Int → Option Int
  | .add, i, j => some (i + j)
  | .sub, i, j => some (i - j)
  | .mul, i, j => if mulOk i j = true then some (i * j) else none
  | .fdiv, i, j => if divOk j = true then some (i / j) else none
  | .mod, i, j => if 0 < j then some (i % j) else none
  | .pow, i, j => if powOk i j = true then some (i ^ j.toNat) else none
  | .shl, i, j => if powOk i j = true then some (i * 2 ^ j.toNat) else none
  | .shr, i, j => if 0 ≤ j then some (i / 2 ^ j.toNat) else none
  | .band, i, j => some (Builtin.bitAnd i j)
  | .bor, i, j => some (Builtin.bitOr i j)
  | .bxor, i, j => some (Builtin.bitXor i j)
def rep {α : Type} (xs : List α) (k : Int) : List α := (List.replicate k.toNat xs).flatten
def binOp (op : Op) (a b : T) : Option T :=
  match a, b with
  | .leaf (.int i), .leaf (.int j) => match intOp op i j with | some k => some (.leaf (.int k)) | none => none
  | .leaf (.str x), .leaf (.str y) => if op = .add ∧ x.length + y.length ≤ sizeLine then some (.leaf (.str (x ++ y))) else none
  | .leaf (.tuple xs), .leaf (.tuple ys) => if op = .add ∧ xs.length + ys.length ≤ sizeLine then some (.leaf (.tuple (xs ++ ys))) else none
  | .leaf (.tuple xs), .leaf (.int k) => if op = .mul ∧ xs.length ≤ 1000 ∧ -1000 ≤ k ∧ k ≤ 1000 then some (.leaf (.tuple (rep xs k))) else none
  | .leaf (.str x), .leaf (.int k) => if op = .mul ∧ x.length ≤ 1000 ∧ -1000 ≤ k ∧ k ≤ 1000 then some (.leaf (.str ⟨(rep x.cps.toList k).toArray⟩)) else none
  | a, .leaf (.int k) => match a.flat with
    | some (.list xs) => if op = .mul ∧ xs.length ≤ 1000 ∧ -1000 ≤ k ∧ k ≤ 1000 then some (.lst ((rep xs k).map .leaf)) else none
    | _ => none
  | a, b => match a.flat, b.flat with
    | some (.list xs), some (.list ys) => if op = .add ∧ xs.length + ys.length ≤ sizeLine then some (.lst ((xs ++ ys).map .leaf)) else none
    | _, _ => none
def keyOf : D → Option Key
  | .int i => some (.inl i)
  | .str x => some (.inr x)
  | _ => none
def eqD (a b : D) : Option Bool := if SeqAt.shaped a = true ∧ SeqAt.shaped b = true then some (PyData.eqv a b) else none
def inD (a : D) : T → Option Bool
  | .leaf (.str z) => match a with
    | .str x => if x.length = 1 then some (decide (x.cps.getD 0 0 ∈ z.cps.toList)) else none
    | _ => none
  | .leaf (.tuple ds) => if SeqAt.shaped a = true ∧ SeqAt.shaped (.tuple ds) = true then some (ds.any fun z => PyData.eqv z a) else none
  | .dct kvs => match keyOf a with
    | some k => some (getK kvs k).isSome
    | none => none
  | t => match t.flat with
    | some (.list ds) => if SeqAt.shaped a = true ∧ SeqAt.shaped (.list ds) = true then some (ds.any fun z => PyData.eqv z a) else none
    | _ => none
def isD : D → D → Option Bool
  | .none, .none => some true
  | .bool a, .bool b => some (decide (a = b))
  | _, .none => some false
  | _, _ => none
def ordD (c : Cm) (a b : T) : Option Bool :=
  match a, b with
  | .leaf (.int i), .leaf (.int j) => match c with
    | .lt => some (decide (i < j))
    | .le => some (decide (i ≤ j))
    | .gt => some (decide (j < i))
    | .ge => some (decide (j ≤ i))
    | _ => none
  | _, _ => none
def cmpOp (c : Cm) (a b : T) : Option Bool :=
  match c with
  | .eq => match a.flat, b.flat with | some x, some y => eqD x y | _, _ => none
  | .ne => match a.flat, b.flat with | some x, some y => (match eqD x y with | some k => some (!k) | none => none) | _, _ => none
  | .isin => match a with | .leaf x => inD x b | _ => none
  | .notin => match a with | .leaf x => (match inD x b with | some k => some (!k) | none => none) | _ => none
  | .is => match a, b with | .leaf x, .leaf y => isD x y | _, _ => none
  | .isnot => match a, b with | .leaf x, .leaf y => (match isD x y with | some k => some (!k) | none => none) | _, _ => none
  | c => ordD c a b
/-- a[i] of something -/
def idxT (t : T) (i : D) : Option T :=
  match t, i with
  | .leaf (.list xs), .int k => (L2.atI xs k).map .leaf
  | .leaf (.tuple xs), .int k => (L2.atI xs k).map .leaf
  | .leaf (.str z), .int k => if z.length ≤ sizeLine then (L2.atI z.cps.toList k).map fun c => .leaf (.str ⟨#[c]⟩) else none
  | .lst ts, .int k => L2.atI ts k
  | .scr ns, .int k => (L2.atI ns k).map fun n => .leaf (.int n)
  | .dct kvs, i => match keyOf i with | some k => getK kvs k | none => none
  | _, _ => none
def sliceT (t : T) (lo hi : Option Int) : Option T :=
  match t with
  | .leaf (.tuple xs) => some (.leaf (.tuple ((xs.drop (HT.sIx xs.length 0 lo)).take (HT.sIx xs.length xs.length hi - HT.sIx xs.length 0 lo))))
  | .leaf (.str z) => if z.length ≤ sizeLine then some (.leaf (.str (L2.cutS z lo hi))) else none
  | .scr ns => some (.lst (((ns.drop (HT.sIx ns.length 0 lo)).take (HT.sIx ns.length ns.length hi - HT.sIx ns.length 0 lo)).map fun n => .leaf (.int n)))
  | t => match t.flat with
    | some (.list xs) => some (.lst (((xs.drop (HT.sIx xs.length 0 lo)).take (HT.sIx xs.length xs.length hi - HT.sIx xs.length 0 lo)).map .leaf))
    | _ => none

inductive F1 where
  | len | int | str | abs | tuple | list | sum | min | max | all | any | sorted
  deriving DecidableEq
def intsOf : List D → Option (List Int)
  | [] => some []
  | .int i :: r => match intsOf r with | some is => some (i :: is) | none => none
  | _ :: _ => none
def strsOf : List D → Option (List Str)
  | [] => some []
  | .str i :: r => match strsOf r with | some is => some (i :: is) | none => none
  | _ :: _ => none
def boolsOf : List D → Option (List Bool)
  | [] => some []
  | .bool i :: r => match boolsOf r with | some is => some (i :: is) | none => none
  | _ :: _ => none
def minL (n : Int) : List Int → Int
  | [] => n
  | m :: r => if m < n then minL m r else minL n r
def maxL (n : Int) : List Int → Int
  | [] => n
  | m :: r => if n < m then maxL m r else maxL n r
def insSorted (n : Int) : List Int → List Int
  | [] => [n]
  | m :: r => if n ≤ m then n :: m :: r else m :: insSorted n r
def sortInts : List Int → List Int
  | [] => []
  | n :: r => insSorted n (sortInts r)
/-- tuples of ints, and their order -/
def tupI : D → Option (List Int)
  | .tuple ds => intsOf ds
  | _ => none
def tupsOf : List D → Option (List (List Int))
  | [] => some []
  | d :: r => match tupI d, tupsOf r with | some ns, some nss => some (ns :: nss) | _, _ => none
def okTups : List (List Int) → Bool
  | [] => false
  | ns :: r => decide (1 ≤ ns.length) && (ns :: r).all fun ms => decide (ms.length = ns.length) && ms.all fun m => decide (0 ≤ m) && decide (m < 1000)
def tcode : List Int → Int
  | [] => 0
  | d :: r => d * 1000 ^ r.length + tcode r
def insT (n : List Int) : List (List Int) → List (List Int)
  | [] => [n]
  | m :: r => if tcode n ≤ tcode m then n :: m :: r else m :: insT n r
def sortT : List (List Int) → List (List Int)
  | [] => []
  | n :: r => insT n (sortT r)
def tupD (ns : List Int) : D := .tuple (ns.map .int)
def T.count : T → Option Nat
  | .leaf (.str z) => if z.length ≤ sizeLine then some z.length else none
  | .leaf (.list xs) => some xs.length
  | .leaf (.tuple xs) => some xs.length
  | .lst ts => some ts.length
  | .dct kvs => some kvs.length
  | .scr ns => some ns.length
  | _ => none
def fun1 (f : F1) (t : T) : Option T :=
  match f with
  | .len => t.count.map fun n => .leaf (.int n)
  | .int => match t with
    | .leaf (.int i) => some (.leaf (.int i))
    | .leaf (.bool b) => some (.leaf (.int (if b then 1 else 0)))
    | _ => none
  | .str => match t with
    | .leaf (.int i) => if i.natAbs.log2 < 1920 then some (.leaf (.str (Str.ofString (toString i)))) else none
    | _ => none
  | .abs => match t with
    | .leaf (.int i) => some (.leaf (.int (if i < 0 then -i else i)))
    | _ => none
  | .tuple => match t with
    | .leaf (.tuple xs) => some (.leaf (.tuple xs))
    | t => match t.flat with
      | some (.list xs) => some (.leaf (.tuple xs))
      | _ => none
  | .list => match t with
    | .leaf (.tuple xs) => some (.lst (xs.map .leaf))
    | t => match t.flat with
      | some (.list xs) => some (.lst (xs.map .leaf))
      | _ => none
  | .sum => match t.flat with
    | some (.list xs) => match intsOf xs with | some ns => some (.leaf (.int ns.sum)) | none => none
    | _ => none
  | .min => match t.flat with
    | some (.list xs) => match intsOf xs with | some (n :: ns) => some (.leaf (.int (minL n ns))) | _ => none
    | _ => none
  | .max => match t.flat with
    | some (.list xs) => match intsOf xs with | some (n :: ns) => some (.leaf (.int (maxL n ns))) | _ => none
    | _ => none
  | .all => match t.flat with
    | some (.list xs) => match boolsOf xs with | some bs => some (.leaf (.bool (bs.all id))) | none => none
    | _ => none
  | .any => match t.flat with
    | some (.list xs) => match boolsOf xs with | some bs => some (.leaf (.bool (bs.any id))) | none => none
    | _ => none
  | .sorted => match t.flat with
    | some (.list xs) => match intsOf xs with
      | some ns => some (.lst ((sortInts ns).map fun n => .leaf (.int n)))
      | none => match tupsOf xs with
        | some nss => if okTups nss = true then some (.lst (((sortT nss).map tupD).map .leaf)) else none
        | none => none
    | _ => none
inductive F2 where
  | min | max
  deriving DecidableEq
def fun2 (f : F2) (a b : T) : Option T :=
  match a, b with
  | .leaf (.int i), .leaf (.int j) => match f with
    | .min => some (.leaf (.int (if j < i then j else i)))
    | .max => some (.leaf (.int (if j > i then j else i)))
  | _, _ => none
inductive Ty where
  | int | bool | str | tuple | list
  deriving DecidableEq
inductive Kd where
  | non | bool | int | str | list | tuple | dict
  deriving DecidableEq
def isKd : Kd → Ty → Bool
  | .bool, .bool => true | .bool, .int => true | .int, .int => true | .str, .str => true | .list, .list => true | .tuple, .tuple => true
  | _, _ => false
def kdOf : T → Option Kd
  | .leaf .none => some .non
  | .leaf (.bool _) => some .bool
  | .leaf (.int _) => some .int
  | .leaf (.str _) => some .str
  | .leaf (.list _) => some .list
  | .leaf (.tuple _) => some .tuple
  | .lst _ => some .list
  | .dct _ => some .dict
  | _ => none
def isTy (t : T) (y : Ty) : Option Bool :=
  match kdOf t with
  | some k => some (isKd k y)
  | none => none
/-- what a for or a comprehension walks -/
def items : T → Option (List D)
  | .leaf (.tuple xs) => some xs
  | .scr ns => some (ns.map .int)
  | t => match t.flat with
    | some (.list xs) => some xs
    | _ => none
/-- a tuple's or a list's items -/
def seqD : T → Option (List D)
  | .leaf (.tuple xs) => some xs
  | t => match t.flat with
    | some (.list xs) => some xs
    | _ => none
/-- methods of data, without effect: the receiver, the arguments -/
inductive Mt where
  | split | join | startswith | upper | lower | lindex
  deriving DecidableEq
def mtKd : Mt → Kd
  | .lindex => .list
  | _ => .str
def findEq (x : D) : List D → Option Nat
  | [] => none
  | y :: r => if PyData.eqv y x = true then some 0 else (findEq x r).map (· + 1)
def findStr (x : Str) : List Str → Option Nat
  | [] => none
  | y :: r => if y = x then some 0 else (findStr x r).map (· + 1)
def joinOk (a : Str) (ys : List Str) : Bool := decide ((ys.map Str.length).sum + ys.length * a.length ≤ 16777216)
def mtOp (m : Mt) (t : T) (as : List T) : Option T :=
  match m, t, as with
  | .split, .leaf (.str a), [.leaf (.str b)] => if b.length ≠ 0 ∧ a.length + 2 ≤ sizeLine then some (.lst (((Txt.split a b).map PyData.str).map .leaf)) else none
  | .join, .leaf (.str a), [u] => (match seqD u with
    | some xs => match strsOf xs with
      | some ys => if joinOk a ys = true then some (.leaf (.str (Txt.join a ys))) else none
      | none => none
    | none => none)
  | .startswith, .leaf (.str a), [.leaf (.str b)] => some (.leaf (.bool (Txt.startswith a b)))
  | .upper, .leaf (.str a), [] => if a.length ≤ 5592405 then some (.leaf (.str (Txt.upper a))) else none
  | .lower, .leaf (.str a), [] => if a.length ≤ 5592405 then some (.leaf (.str (Txt.lower a))) else none
  | .lindex, t, [.leaf x] => (match t.flat with
    | some (.list xs) => if SeqAt.shaped x = true ∧ SeqAt.shaped (.list xs) = true then (match findEq x xs with | some n => some (.leaf (.int (n : Int))) | none => none) else none
    | _ => none)
  | _, _, _ => none

/-! ### dicts -/
def putT (kvs : List (Key × T)) (k : Key) (t : T) : List (Key × T) :=
  match kvs with
  | [] => [(k, t)]
  | (j, u) :: r => if j = k then (j, t) :: r else (j, u) :: putT r k t
/-! ### paths -/
inductive Step where
  | i (n : Int)
  | s (x : Str)
  | v (k : Nat)
  deriving DecidableEq
def stepD (ρ : Rho) : Step → Option D
  | .i n => some (.int n)
  | .s x => some (.str x)
  | .v k => match ρ[k]? with
    | some (some (.leaf d)) => some d
    | _ => none
/-- the path's steps as they stand now: places of lists, keys of dicts -/
inductive Pl where
  | at (n : Nat)
  | key (k : Key)
def plOf (t : T) (d : D) : Option Pl :=
  match t, d with
  | .lst ts, .int k => (L2.ixN ts.length k).map .at
  | .dct kvs, d => (keyOf d).map .key
  | _, _ => none
def child (t : T) (p : Pl) : Option T :=
  match t, p with
  | .lst ts, .at n => ts[n]?
  | .dct kvs, .key k => getK kvs k
  | _, _ => none
def setChild (t : T) (p : Pl) (u : T) : Option T :=
  match t, p with
  | .lst ts, .at n => if n < ts.length then some (.lst (ts.set n u)) else none
  | .dct kvs, .key k => some (.dct (putT kvs k u))
  | _, _ => none
/-- change the subtree at the steps by f, which also answers -/
def onPath {α : Type} (f : T → Option (α × T)) : List D → T → Option (α × T)
  | [], t => f t
  | d :: ds, t => match plOf t d with
    | some p => match child t p with
      | some c => match onPath f ds c with
        | some (a, c') => match setChild t p c' with
          | some t' => some (a, t')
          | none => none
        | none => none
      | none => none
    | none => none
def getSlot (ρ : Rho) (k : Nat) : Option T := match ρ[k]? with | some (some t) => some t | _ => none
def stepsD (ρ : Rho) : List Step → Option (List D)
  | [] => some []
  | s :: r => match stepD ρ s with
    | some d => match stepsD ρ r with | some ds => some (d :: ds) | none => none
    | none => none
/-- a list stands there -/
def isL : T → Option (Unit × T)
  | .lst ts => some ((), .lst ts)
  | _ => none
/-- a list or a dict stands there -/
def isC : T → Option (Unit × T)
  | .lst ts => some ((), .lst ts)
  | .dct kvs => some ((), .dct kvs)
  | _ => none
def isCon (ρ : Rho) (k : Nat) (st : List Step) : Bool :=
  match getSlot ρ k, stepsD ρ st with
  | some t, some ds => (onPath isC ds t).isSome
  | _, _ => false
def isLst (ρ : Rho) (k : Nat) (st : List Step) : Bool :=
  match getSlot ρ k, stepsD ρ st with
  | some t, some ds => (onPath isL ds t).isSome
  | _, _ => false
/-- pop the last, pop at a place -/
def popT (i : Option Int) : T → Option (T × T)
  | .lst ts => match i with
    | none => match ts.getLast? with
      | some t => some (t, .lst ts.dropLast)
      | none => none
    | some k => if Nat.ble k.natAbs 9223372036854775807 = true then (match L2.ixN ts.length k with
      | some n => match ts[n]? with
        | some t => some (t, .lst (ts.eraseIdx n))
        | none => none
      | none => none) else none
  | _ => none

/-! ### the language -/
inductive Pat where
  | v (k : Nat)
  | tup (ps : List Pat)
mutual
inductive E where
  | nop
  | non | bl (b : Bool) | int (i : Int) | str (s : Str)
  | var (k : Nat)
  | glob (x : Str) (d : D)
  | tup (es : Es) | lst (es : Es) | dct (ks : List Key) (es : Es)
  | bin (op : Op) (a b : E) | neg (a : E)
  | cmp (c : Cm) (a b : E) | chain (c c' : Cm) (a b d : E)
  | and (a b : E) | or (a b : E) | not (a : E) | ite (c a b : E)
  | idx (a i : E) | slice (a lo hi : E) | rev (a : E)
  | call (f : Nat) (es : Es)
  | callK (f : Nat) (es ws : Es) (ks : List Str) (pm : List Nat)
  | f1 (f : F1) (a : E) | f2 (f : F2) (a b : E) | isi (a : E) (y : Ty)
  | comp (e : E) (p : Pat) (it : It) (c : E)
  | pop (k : Nat) (st : List Step) (i : E)
  | mt (m : Mt) (a : E) (es : Es)
  | gidx (x : Str) (ys : List Str) (a : E)
  | frz (a : E)
  | call0 (f : Nat)
  | lrng (tup : Bool) (a : E)
  | xf (k : Nat) (f : Str)
inductive Es where
  | nil
  | cons (e : E) (es : Es)
inductive It where
  | seq (a : E)
  | rng1 (a : E) | rng2 (a b : E) | rng3 (a b : E) (c : Int)
  | enum (a : E) | zip (es : Es)
end
inductive M where
  | mv | rd | cd
  deriving DecidableEq
def fin (m : M) (r : R T) : R T :=
  match m with
  | .cd => r.bind fun t ρ => match t.truth with | some b => .ok (.leaf (.bool b)) ρ | none => .bad
  | _ => r
/-- .. or a text -/
def itemsS (t : T) : Option (List D) :=
  match t with
  | .leaf (.str z) => some (z.cps.toList.map fun c => .str ⟨#[c]⟩)
  | t => items t
def zipD : List (List D) → Option (List D)
  | [xs, ys] => some ((xs.zip ys).map fun (x, y) => .tuple [x, y])
  | [xs, ys, zs] => some ((xs.zip (ys.zip zs)).map fun (x, y, z) => .tuple [x, y, z])
  | [xs, ys, zs, ws] => some ((xs.zip (ys.zip (zs.zip ws))).map fun (x, y, z, w) => .tuple [x, y, z, w])
  | _ => none
def enumFrom (n : Nat) : List D → List D
  | [] => []
  | x :: r => .tuple [.int (n : Int), x] :: enumFrom (n + 1) r
def itemsAll : List T → Option (List (List D))
  | [] => some []
  | t :: r => match items t with
    | some xs => match itemsAll r with | some ys => some (xs :: ys) | none => none
    | none => none
mutual
/-- bind a pattern: the places set -/
def bindP : Pat → D → Rho → Option Rho
  | .v k, d, ρ => match ρ[k]? with
    | some none => some (ρ.set k (some (.leaf d)))
    | some (some (.leaf _)) => some (ρ.set k (some (.leaf d)))
    | _ => none
  | .tup ps, .tuple ds, ρ => bindPs ps ds ρ
  | _, _, _ => none
def bindPs : List Pat → List D → Rho → Option Rho
  | [], [], ρ => some ρ
  | p :: ps, d :: ds, ρ => match bindP p d ρ with
    | some ρ' => bindPs ps ds ρ'
    | none => none
  | _, _, _ => none
end
mutual
def patVs : Pat → List Nat
  | .v k => [k]
  | .tup ps => patsVs ps
def patsVs : List Pat → List Nat
  | [] => []
  | p :: ps => patVs p ++ patsVs ps
end
/-- the slots' values put back as they stood in ρ₀ -/
def restore (ρ₀ : Rho) : List Nat → Rho → Rho
  | [], ρ => ρ
  | k :: ks, ρ => restore ρ₀ ks (ρ.set k (match ρ₀[k]? with | some o => o | none => none))
/-- the slots emptied; they hold no owned tree -/
def wipeR : List Nat → Rho → Option Rho
  | [], ρ => some ρ
  | k :: ks, ρ => match ρ[k]? with
    | some none => wipeR ks ρ
    | some (some (.leaf _)) => wipeR ks (ρ.set k none)
    | _ => none
/-- a comprehension's turns -/
def compM (f : D → Rho → R (Option T)) : List D → Rho → R (List T)
  | [], ρ => .ok [] ρ
  | d :: ds, ρ => (f d ρ).bind fun o ρ1 => (compM f ds ρ1).bind fun ts ρ2 => .ok (match o with | some t => t :: ts | none => ts) ρ2
def putBack : Es → List (Option T) → Rho → Rho
  | .cons (.var k) es, some t :: os, ρ => putBack es os (ρ.set k (some t))
  | .cons _ es, _ :: os, ρ => putBack es os ρ
  | _, _, ρ => ρ
/-- a list by places -/
def permL {α : Type} : List Nat → List α → Option (List α)
  | [], _ => some []
  | i :: r, xs => match xs[i]?, permL r xs with
    | some x, some ys => some (x :: ys)
    | _, _ => none
/-- nothing is raised within -/
def nox {α : Type} : R α → R α
  | .ok a ρ => .ok a ρ
  | _ => .bad
mutual
/-- no effect on what is owned -/
def pureE : E → Bool
  | .non | .bl _ | .int _ | .str _ | .var _ | .glob _ _ => true
  | .bin _ a b => pureE a && pureE b
  | .neg a => pureE a
  | .cmp _ a b => pureE a && pureE b
  | .idx a i => pureE a && pureE i
  | .f1 _ a => pureE a
  | .tup es => pureEs es
  | _ => false
def pureEs : Es → Bool
  | .nil => true
  | .cons e es => pureE e && pureEs es
end
/-- the left operand, when the right one is known -/
def opnd (a : E) (t : T) (ρ : Rho) (pb : Bool) : Option T :=
  match a with
  | .var k => getSlot ρ k
  | .idx _ _ => if t.isLeaf = true ∨ pb = true then some t else none
  | _ => some t
/-- the slot that is walked is taken out -/
def takeOut : E → Rho → Rho
  | .var k, ρ => match getSlot ρ k with
    | some t => if t.free = true then ρ else ρ.set k none
    | none => ρ
  | _, ρ => ρ
def takeOuts : Es → Rho → Rho
  | .nil, ρ => ρ
  | .cons e es, ρ => takeOuts es (takeOut e ρ)
def putIn (ρ₀ : Rho) : E → Rho → Rho
  | .var k, ρ => match getSlot ρ₀ k with
    | some t => if t.free = true then ρ else ρ.set k (some t)
    | none => ρ
  | _, ρ => ρ
def putIns0 (ρ₀ : Rho) : Es → Rho → Rho
  | .nil, ρ => ρ
  | .cons e es, ρ => putIns0 (takeOut e ρ₀) es (putIn ρ₀ e ρ)
def takeIt : It → Rho → Rho
  | .seq a, ρ => takeOut a ρ
  | .enum a, ρ => takeOut a ρ
  | .zip es, ρ => takeOuts es ρ
  | _, ρ => ρ
def putIt (ρ₀ : Rho) : It → Rho → Rho
  | .seq a, ρ => putIn ρ₀ a ρ
  | .enum a, ρ => putIn ρ₀ a ρ
  | .zip es, ρ => putIns0 ρ₀ es ρ
  | _, ρ => ρ
/-- the slots whose trees are walked -/
def ioOp : E → Rho → List Nat
  | .var k, ρ => match getSlot ρ k with
    | some t => if t.free = true then [] else [k]
    | none => []
  | _, _ => []
def ioOps0 : Es → Rho → List Nat
  | .nil, _ => []
  | .cons e es, ρ => ioOp e ρ ++ ioOps0 es (takeOut e ρ)
def ioIt : It → Rho → List Nat
  | .seq a, ρ => ioOp a ρ
  | .enum a, ρ => ioOp a ρ
  | .zip es, ρ => ioOps0 es ρ
  | _, _ => []
def R.map1 {α : Type} (g : Rho → Rho) : R α → R α
  | .ok a ρ => .ok a (g ρ)
  | .exc x ρ => .exc x (g ρ)
  | .bad => .bad
def asInt : T → Option Int
  | .leaf (.int i) => some i
  | _ => none
def rangeD (i : Int) : List D := (List.range i.toNat).map fun (j : Nat) => .int (j : Int)
def big62 (i : Int) : Bool := Nat.ble i.natAbs 4611686018427387903
/-- walkable twice: not an owned child -/
def stands (a : E) (t : T) : Bool :=
  match a with
  | .idx _ _ => t.isLeaf
  | _ => true
def isNop : E → Bool
  | .nop => true
  | _ => false
/-- a part that may be left out -/
def optR (nop : Bool) (r : R T) (ρ : Rho) : R (Option Int) :=
  if nop = true then .ok none ρ else r.bind fun t ρ1 => match asInt t with | some i => .ok (some i) ρ1 | none => .bad
def yesR (nop : Bool) (r : R T) (ρ : Rho) : R Bool :=
  if nop = true then .ok true ρ else r.bind fun t ρ1 => match t with | .leaf (.bool b) => .ok b ρ1 | _ => .bad
mutual
def ev (φ : Nat → List T → FR) (m : M) : E → Rho → R T
  | .nop, _ => .bad
  | .non, ρ => fin m (.ok (.leaf .none) ρ)
  | .bl b, ρ => fin m (.ok (.leaf (.bool b)) ρ)
  | .int i, ρ => fin m (.ok (.leaf (.int i)) ρ)
  | .str s, ρ => fin m (.ok (.leaf (.str s)) ρ)
  | .var k, ρ => match getSlot ρ k with
    | some t => if m = .mv ∧ t.free = false then .ok t (ρ.set k none) else fin m (.ok t ρ)
    | none => .bad
  | .glob _ d, ρ => fin m (.ok (.leaf d) ρ)
  | .tup es, ρ => fin m ((evEs φ es ρ).bind fun ts ρ1 => match leaves ts with
    | some ds => if ds.length ≤ sizeLine then .ok (.leaf (.tuple ds)) ρ1 else .bad
    | none => .bad)
  | .lst es, ρ => fin m ((evEs φ es ρ).bind fun ts ρ1 => if ts.length ≤ sizeLine then .ok (.lst ts) ρ1 else .bad)
  | .dct ks es, ρ => fin m ((evEsO φ es ρ).bind fun ts ρ1 => if ts.length = ks.length ∧ ts.length ≤ 15 ∧ ks.Nodup then .ok (.dct (ks.zip ts)) ρ1 else .bad)
  | .bin op a b, ρ => fin m ((ev φ .rd a ρ).bind fun t ρ1 => (ev φ .rd b ρ1).bind fun y ρ2 => match opnd a t ρ2 (pureE b) with
    | some x => R.of (binOp op x y) ρ2
    | none => .bad)
  | .neg a, ρ => fin m ((ev φ .rd a ρ).bind fun x ρ1 => match x with | .leaf (.int i) => .ok (.leaf (.int (-i))) ρ1 | _ => .bad)
  | .cmp c a b, ρ => (ev φ .rd a ρ).bind fun t ρ1 => (ev φ .rd b ρ1).bind fun y ρ2 => match opnd a t ρ2 (pureE b) with
    | some x => (match cmpOp c x y with | some k => .ok (.leaf (.bool k)) ρ2 | none => .bad)
    | none => .bad
  | .chain c c' a b d, ρ => (ev φ .rd a ρ).bind fun x ρ1 => (ev φ .rd b ρ1).bind fun y ρ2 =>
    if x.isLeaf = true ∧ y.isLeaf = true then
      (match cmpOp c x y with
      | some true => (ev φ .rd d ρ2).bind fun z ρ3 => (match cmpOp c' y z with | some k => .ok (.leaf (.bool k)) ρ3 | none => .bad)
      | some false => .ok (.leaf (.bool false)) ρ2
      | none => .bad)
    else .bad
  | .and a b, ρ => (if m = .cd then
      ((ev φ .cd a ρ).bind fun x ρ1 => match x with
      | .leaf (.bool true) => ev φ .cd b ρ1
      | .leaf (.bool false) => .ok (.leaf (.bool false)) ρ1
      | _ => .bad)
    else
      ((ev φ .rd a ρ).bind fun x ρ1 => match x with
      | .leaf d => (match x.truth with
        | some true => (ev φ .rd b ρ1).bind fun y ρ2 => if y.isLeaf = true then .ok y ρ2 else .bad
        | some false => .ok (.leaf d) ρ1
        | none => .bad)
      | _ => .bad))
  | .or a b, ρ => (if m = .cd then
      ((ev φ .cd a ρ).bind fun x ρ1 => match x with
      | .leaf (.bool false) => ev φ .cd b ρ1
      | .leaf (.bool true) => .ok (.leaf (.bool true)) ρ1
      | _ => .bad)
    else
      ((ev φ .rd a ρ).bind fun x ρ1 => match x with
      | .leaf d => (match x.truth with
        | some false => (ev φ .rd b ρ1).bind fun y ρ2 => if y.isLeaf = true then .ok y ρ2 else .bad
        | some true => .ok (.leaf d) ρ1
        | none => .bad)
      | _ => .bad))
  | .not a, ρ => (if m = .cd then
      ((ev φ .cd a ρ).bind fun x ρ1 => match x with
      | .leaf (.bool b) => .ok (.leaf (.bool (!b))) ρ1
      | _ => .bad)
    else
      ((ev φ .rd a ρ).bind fun x ρ1 => match x.truth with
      | some b => .ok (.leaf (.bool (!b))) ρ1
      | none => .bad))
  | .ite c a b, ρ => (ev φ .cd c ρ).bind fun x ρ1 => match x with
    | .leaf (.bool true) => (ev φ m a ρ1).bind fun y ρ2 => if y.isLeaf = true ∨ m = .mv then .ok y ρ2 else .bad
    | .leaf (.bool false) => (ev φ m b ρ1).bind fun y ρ2 => if y.isLeaf = true ∨ m = .mv then .ok y ρ2 else .bad
    | _ => .bad
  | .idx a i, ρ => fin m ((ev φ .rd a ρ).bind fun t ρ1 => (ev φ .rd i ρ1).bind fun j ρ2 => match opnd a t ρ2 (pureE i) with
    | some x => (match j with
      | .leaf d => (match idxT x d with
        | some u => if m ≠ .mv ∨ u.isLeaf = true then .ok u ρ2 else .bad
        | none => .bad)
      | _ => .bad)
    | none => .bad)
  | .slice a lo hi, ρ => fin m ((ev φ .rd a ρ).bind fun t ρ1 => (optR (isNop lo) (ev φ .rd lo ρ1) ρ1).bind fun l ρ2 => (optR (isNop hi) (ev φ .rd hi ρ2) ρ2).bind fun h ρ3 =>
    match opnd a t ρ3 ((pureE lo || isNop lo) && (pureE hi || isNop hi)) with
    | some x => R.of (sliceT x l h) ρ3
    | none => .bad)
  | .rev a, ρ => fin m ((ev φ .rd a ρ).bind fun t ρ1 => match t.flat with
    | some (.list xs) => .ok (.lst (xs.reverse.map .leaf)) ρ1
    | _ => .bad)
  | .call f es, ρ => fin m ((evEs φ es ρ).bind fun ts ρ1 => match φ f ts with
    | .ret t outs => .ok t (putBack es outs ρ1)
    | .exc x outs => .exc x (putBack es outs ρ1)
    | .bad => .bad)
  | .callK f es ws _ pm, ρ => fin m ((evEs φ es ρ).bind fun ts ρ1 => (evEs φ ws ρ1).bind fun us ρ2 => match leaves ts, leaves us with
    | some ds, some es => (match permL pm (ds ++ es) with
      | some as => (match φ f (as.map .leaf) with
        | .ret t _ => .ok t ρ2
        | _ => .bad)
      | none => .bad)
    | _, _ => .bad)
  | .f1 f a, ρ => fin m ((ev φ .rd a ρ).bind fun t ρ1 => R.of (fun1 f t) ρ1)
  | .f2 f a b, ρ => fin m ((ev φ .rd a ρ).bind fun x ρ1 => (ev φ .rd b ρ1).bind fun y ρ2 => R.of (fun2 f x y) ρ2)
  | .isi a y, ρ => (ev φ .rd a ρ).bind fun t ρ1 => match isTy t y with | some b => .ok (.leaf (.bool b)) ρ1 | none => .bad
  | .comp e p it c, ρ => fin m ((evIt φ it ρ).bind fun ds ρ1 => if (ioIt it ρ1).any (fun k => decide (k ∈ patVs p)) = true then .bad else match wipeR (patVs p) (takeIt it ρ1) with
    | some ρ2 => R.map1 (fun ρ' => putIt ρ1 it (restore (takeIt it ρ1) (patVs p) ρ')) ((nox (compM (fun d ρ3 => match bindP p d ρ3 with
      | some ρ4 => (yesR (isNop c) (ev φ .cd c ρ4) ρ4).bind fun k ρ5 => (if k = true then (ev φ .mv e ρ5).bind fun t ρ6 => (match wipeR (patVs p) ρ6 with
          | some ρ7 => .ok (some t) ρ7
          | none => .bad)
        else (match wipeR (patVs p) ρ5 with
          | some ρ7 => .ok none ρ7
          | none => .bad))
      | none => .bad) ds ρ2)).bind fun ts ρ8 => if ts.length ≤ sizeLine then .ok (.lst ts) ρ8 else .bad)
    | none => .bad)
  | .pop k st i, ρ => fin m (if isLst ρ k st = true then (optR (isNop i) (ev φ .rd i ρ) ρ).bind fun o ρ1 => match getSlot ρ1 k, stepsD ρ1 st with
    | some t, some ds => (match onPath (popT o) ds t with
      | some (u, t') => if (st.isEmpty || isNop i || pureE i) = true ∧ u.isLeaf = true then .ok u (ρ1.set k (some t')) else .bad
      | none => .bad)
    | _, _ => .bad
    else .bad)
  | .mt mt a es, ρ => fin m ((ev φ .rd a ρ).bind fun t ρ1 => if kdOf t = some (mtKd mt) then (evEs φ es ρ1).bind fun ts ρ2 => match opnd a t ρ2 false with
    | some x => R.of (mtOp mt x ts) ρ2
    | none => .bad
    else .bad)
  | .gidx _ ys a, ρ => fin m ((ev φ .rd a ρ).bind fun t ρ1 => match t with
    | .leaf (.str x) => (match findStr x ys with | some n => .ok (.leaf (.int (n : Int))) ρ1 | none => .bad)
    | _ => .bad)
  | .call0 f, ρ => fin m (match φ f [] with
    | .ret t _ => .ok t ρ
    | _ => .bad)
  | .xf k f, ρ => fin m (match getSlot ρ k, φ xfIx [] with
    | some (.xcp a dd x), .ret (.rng a' dd') _ => if a' = (a : Int) ∧ dd' = (dd : Int) then (match x.fs.lookup f with | some d => .ok (.leaf d) ρ | none => .bad) else .bad
    | _, _ => .bad)
  | .lrng tup a, ρ => fin m ((ev φ .rd a ρ).bind fun t ρ1 => match asInt t with
    | some i => if big62 i = true ∧ i ≤ 16777216 then (if tup = true then .ok (.leaf (.tuple (rangeD i))) ρ1 else .ok (.lst ((rangeD i).map .leaf)) ρ1) else .bad
    | none => .bad)
  | .frz a, ρ => fin m ((ev φ .mv a ρ).bind fun t ρ1 => match t.toD with | some d => .ok (.leaf d) ρ1 | none => .bad)
/-- one after another, each taken as it comes -/
def evEsO (φ : Nat → List T → FR) : Es → Rho → R (List T)
  | .nil, ρ => .ok [] ρ
  | .cons e es, ρ => (ev φ .mv e ρ).bind fun t ρ1 => (evEsO φ es ρ1).bind fun ts ρ2 => .ok (t :: ts) ρ2
def evEs (φ : Nat → List T → FR) : Es → Rho → R (List T)
  | .nil, ρ => .ok [] ρ
  | .cons (.var k) es, ρ => if (getSlot ρ k).isSome = true then (evEs φ es ρ).bind fun ts ρ1 => (ev φ .mv (.var k) ρ1).bind fun t ρ2 => .ok (t :: ts) ρ2 else .bad
  | .cons e es, ρ => (ev φ .mv e ρ).bind fun t ρ1 => (evEs φ es ρ1).bind fun ts ρ2 => .ok (t :: ts) ρ2
/-- the items that are walked -/
def evIt (φ : Nat → List T → FR) : It → Rho → R (List D)
  | .seq a, ρ => (ev φ .rd a ρ).bind fun t ρ1 => if stands a t = true then R.of (itemsS t) ρ1 else .bad
  | .rng1 a, ρ => (ev φ .rd a ρ).bind fun x ρ1 => match asInt x with
    | some i => if big62 i = true then .ok ((List.range i.toNat).map fun (j : Nat) => .int (j : Int)) ρ1 else .bad
    | none => .bad
  | .rng2 a b, ρ => (ev φ .rd a ρ).bind fun x ρ1 => (ev φ .rd b ρ1).bind fun y ρ2 => match asInt x, asInt y with
    | some i, some j => if big62 i = true ∧ big62 j = true then .ok ((List.range (j - i).toNat).map fun (k : Nat) => .int (i + (k : Int))) ρ2 else .bad
    | _, _ => .bad
  | .rng3 a b c, ρ => (ev φ .rd a ρ).bind fun x ρ1 => (ev φ .rd b ρ1).bind fun y ρ2 => match asInt x, asInt y with
    | some i, some j => if big62 i = true ∧ big62 j = true ∧ c = -1 then .ok ((List.range (i - j).toNat).map fun (k : Nat) => .int (i - (k : Int))) ρ2 else .bad
    | _, _ => .bad
  | .enum a, ρ => (ev φ .rd a ρ).bind fun t ρ1 => if stands a t = true then (match itemsS t with | some xs => .ok (enumFrom 0 xs) ρ1 | none => .bad) else .bad
  | .zip es, ρ => (evRds φ es ρ).bind fun ts ρ1 => match itemsAll ts with
    | some xss => R.of (zipD xss) ρ1
    | none => .bad
/-- operands that are walked side by side: none of them an owned child, all pure -/
def evRds (φ : Nat → List T → FR) : Es → Rho → R (List T)
  | .nil, ρ => .ok [] ρ
  | .cons e es, ρ => (ev φ .rd e ρ).bind fun t ρ1 => (evRds φ es ρ1).bind fun ts ρ2 => match opnd e t ρ2 false with
    | some x => if stands e x = true then .ok (x :: ts) ρ2 else .bad
    | none => .bad
end
/-! ### statements -/
inductive Mu where
  | append | insert | reverse
  deriving DecidableEq
inductive S where
  | nil
  | set (k : Nat) (e : E) (s : S)
  | asg (p : Pat) (e : E) (s : S)
  | par (ks : List Nat) (es : Es) (s : S)
  | store (k : Nat) (st : List Step) (i e : E) (s : S)
  | aug (k : Nat) (op : Op) (e : E) (s : S)
  | augS (k : Nat) (st : List Step) (i : E) (op : Op) (e : E) (s : S)
  | mut (k : Nat) (st : List Step) (mu : Mu) (es : Es) (s : S)
  | ext (k : Nat) (st : List Step) (e : E) (s : S)
  | expr (e : E) (s : S)
  | ret (e : E) | retN
  | ite (c : E) (a b s : S)
  | for (p : Pat) (it : It) (body s : S)
  | while (fuel : Nat) (c : E) (body s : S)
  | brk | cont | pass (s : S)
  | dead
  | lendS (k j : Nat) (st : List Step) (s : S)
/-- how a block ends -/
inductive O where
  | next (ρ : Rho)
  | ret (t : T) (ρ : Rho)
  | brk (ρ : Rho)
  | cont (ρ : Rho)
  | exc (x : Exc) (ρ : Rho)
  | bad
def R.go {α : Type} : R α → (α → Rho → O) → O
  | .ok a ρ, f => f a ρ
  | .exc x ρ, _ => .exc x ρ
  | .bad, _ => .bad
def O.thn : O → (Rho → O) → O
  | .next ρ, f => f ρ
  | o, _ => o
def O.map1 (g : Rho → Rho) : O → O
  | .next ρ => .next (g ρ)
  | .ret t ρ => .ret t (g ρ)
  | .brk ρ => .brk (g ρ)
  | .cont ρ => .cont (g ρ)
  | .exc x ρ => .exc x (g ρ)
  | .bad => .bad
/-- a slot is stored, not one that holds an owned argument -/
def setSlot (io : List Nat) (k : Nat) (t : T) (ρ : Rho) : Option Rho := if k ∈ io ∨ ρ.length ≤ k then none else some (ρ.set k (some t))
def setSlots (io : List Nat) : List Nat → List T → Rho → Option Rho
  | [], [], ρ => some ρ
  | k :: ks, t :: ts, ρ => match setSlot io k t ρ with | some ρ' => setSlots io ks ts ρ' | none => none
  | _, _, _ => none
/-- a pattern is bound to a leaf, or a list of leaves is unpacked -/
def bindIo (io : List Nat) (p : Pat) (d : D) (ρ : Rho) : Option Rho := if (patVs p).any (fun k => decide (k ∈ io)) = true then none else bindP p d ρ
def forM (f : D → Rho → O) : List D → Rho → O
  | [], ρ => .next ρ
  | d :: ds, ρ => match f d ρ with
    | .next ρ1 => forM f ds ρ1
    | .cont ρ1 => forM f ds ρ1
    | .brk ρ1 => .next ρ1
    | o => o
def whileM (f : Rho → O) (c : Rho → R Bool) : Nat → Rho → O
  | 0, _ => .bad
  | n + 1, ρ => (c ρ).go fun b ρ1 => if b = true then (match f ρ1 with
    | .next ρ2 => whileM f c n ρ2
    | .cont ρ2 => whileM f c n ρ2
    | .brk ρ2 => .next ρ2
    | o => o) else .next ρ1
def storeT (d : D) (u : T) : T → Option (Unit × T)
  | .lst ts => match d with
    | .int k => (match L2.ixN ts.length k with
      | some n => some ((), .lst (ts.set n u))
      | none => none)
    | _ => none
  | .dct kvs => match keyOf d with
    | some k => if kvs.length < sizeLine then some ((), .dct (putT kvs k u)) else none
    | none => none
  | _ => none
def mutT (mu : Mu) (as : List T) : T → Option (Unit × T)
  | .lst ts => match mu, as with
    | .append, [u] => if ts.length < sizeLine then some ((), .lst (ts ++ [u])) else none
    | .insert, [.leaf (.int i), u] => if i = 0 ∧ ts.length < sizeLine then some ((), .lst (u :: ts)) else none
    | .reverse, [] => some ((), .lst ts.reverse)
    | _, _ => none
  | _ => none
def idxC (d : D) (u : T) : Option (T × T) :=
  match u with
  | .lst _ => (idxT u d).map fun x => (x, u)
  | .dct _ => (idxT u d).map fun x => (x, u)
  | _ => none
def extT (xs : List D) : T → Option (Unit × T)
  | .lst ts => if ts.length + xs.length ≤ sizeLine then some ((), .lst (ts ++ xs.map .leaf)) else none
  | _ => none
/-- name op= e -/
def augD (op : Op) (x y : D) : Option D :=
  match op, x, y with
  | .add, .int i, .int j => some (.int (i + j))
  | .sub, .int i, .int j => some (.int (i - j))
  | .add, .str a, .str b => if a.length + b.length ≤ sizeLine then some (.str (a ++ b)) else none
  | _, _, _ => none
def leafOf (t : T) : Option D := match t with | .leaf d => some d | _ => none
def condR (r : R T) : R Bool := r.bind fun t ρ1 => match t with | .leaf (.bool b) => .ok b ρ1 | _ => .bad
/-- a list or a dict is lent: a hole stays -/
def takeA (a : Nat) : T → Option (T × T)
  | .lst ts => some (.lst ts, .hole a)
  | .dct kvs => some (.dct kvs, .hole a)
  | _ => none
def fillA (a : Nat) (c : T) : T → Option (Unit × T)
  | .hole b => if b = a then some ((), c) else none
  | _ => none
def lendR (k j : Nat) (ds : List D) (a : Nat) (ρ : Rho) : Option Rho :=
  match getSlot ρ j with
  | some t => match onPath (takeA a) ds t with
    | some (c, t') => some ((ρ.set j (some t')).set k (some c))
    | none => none
  | none => none
def backR (k j : Nat) (ds : List D) (a : Nat) (ρ : Rho) : Option Rho :=
  match getSlot ρ k, getSlot ρ j with
  | some c, some t => match onPath (fillA a c) ds t with
    | some (_, t') => some ((ρ.set k none).set j (some t'))
    | none => none
  | _, _ => none
def backO (k j : Nat) (ds : List D) (a : Nat) (o : O) : O :=
  match o with
  | .next ρ => match backR k j ds a ρ with | some ρ' => .next ρ' | none => .bad
  | .ret t ρ => match backR k j ds a ρ with | some ρ' => .ret t ρ' | none => .bad
  | .brk ρ => match backR k j ds a ρ with | some ρ' => .brk ρ' | none => .bad
  | .cont ρ => match backR k j ds a ρ with | some ρ' => .cont ρ' | none => .bad
  | .exc x ρ => match backR k j ds a ρ with | some ρ' => .exc x ρ' | none => .bad
  | .bad => .bad
open Classical in
/-- what comes out whatever the address is -/
noncomputable def pickO (f : Nat → O) : O := if h : ∃ o, ∀ a, f a = o then h.choose else .bad
theorem pickO_eq {f : Nat → O} {o : O} (h : ∀ a, f a = o) : pickO f = o := by
  have e : ∃ o, ∀ a, f a = o := ⟨o, h⟩
  unfold pickO
  rw [dif_pos e]
  exact (e.choose_spec 0).symm.trans (h 0)
theorem pickO_at {f : Nat → O} (h : pickO f ≠ .bad) (a : Nat) : f a = pickO f := by
  unfold pickO at h ⊢
  split at h
  · rename_i e
    rw [dif_pos e]
    exact e.choose_spec a
  · exact absurd rfl h
noncomputable def evS (φ : Nat → List T → FR) (io : List Nat) : S → Rho → O
  | .nil, ρ => .next ρ
  | .set k e s, ρ => (ev φ .mv e ρ).go fun t ρ1 => match setSlot io k t ρ1 with
    | some ρ2 => evS φ io s ρ2
    | none => .bad
  | .asg p e s, ρ => (ev φ .rd e ρ).go fun t ρ1 => match t with
    | .leaf d => (match bindIo io p d ρ1 with
      | some ρ2 => evS φ io s ρ2
      | none => .bad)
    | _ => .bad
  | .par ks es s, ρ => (evEs φ es ρ).go fun ts ρ1 => match setSlots io ks ts ρ1 with
    | some ρ2 => evS φ io s ρ2
    | none => .bad
  | .store k st i e s, ρ => (ev φ .mv e ρ).go fun u ρ1 => if isCon ρ1 k st = true then (ev φ .rd i ρ1).go fun j ρ2 => match getSlot ρ2 k, stepsD ρ2 st, leafOf j with
    | some t, some ds, some d => (match onPath (storeT d u) ds t with
      | some (_, t') => if (st.isEmpty || pureE i) = true then evS φ io s (ρ2.set k (some t')) else .bad
      | none => .bad)
    | _, _, _ => .bad
    else .bad
  | .aug k op e s, ρ => match getSlot ρ k with
    | some (.leaf x) => (ev φ .rd e ρ).go fun y ρ1 => match leafOf y with
      | some y' => (match augD op x y' with
        | some z => (match setSlot io k (.leaf z) ρ1 with
          | some ρ2 => evS φ io s ρ2
          | none => .bad)
        | none => .bad)
      | none => .bad
    | _ => .bad
  | .augS k st i op e s, ρ => if isCon ρ k st = true ∧ (st.isEmpty || (pureE i && pureE e)) = true then (ev φ .rd i ρ).go fun j ρ1 => match getSlot ρ1 k, stepsD ρ1 st, leafOf j with
    | some t, some ds, some d => (match onPath (idxC d) ds t with
      | some (.leaf x, _) => (ev φ .rd e ρ1).go fun y ρ2 => (match leafOf y with
        | some y' => (match augD op x y' with
          | some z => (match getSlot ρ2 k, stepsD ρ2 st with
            | some t2, some ds2 => (match onPath (storeT d (.leaf z)) ds2 t2 with
              | some (_, t') => evS φ io s (ρ2.set k (some t'))
              | none => .bad)
            | _, _ => .bad)
          | none => .bad)
        | none => .bad)
      | _ => .bad)
    | _, _, _ => .bad
    else .bad
  | .mut k st mu es s, ρ => if isLst ρ k st = true then (evEs φ es ρ).go fun us ρ1 => match getSlot ρ1 k, stepsD ρ1 st with
    | some t, some ds => (match onPath (mutT mu us) ds t with
      | some (_, t') => if (st.isEmpty || pureEs es) = true then evS φ io s (ρ1.set k (some t')) else .bad
      | none => .bad)
    | _, _ => .bad
    else .bad
  | .ext k st e s, ρ => if isLst ρ k st = true then (ev φ .rd e ρ).go fun u ρ1 => match u.flat, getSlot ρ1 k, stepsD ρ1 st with
    | some (.list xs), some t, some ds => (match onPath (extT xs) ds t with
      | some (_, t') => if (st.isEmpty || pureE e) = true then evS φ io s (ρ1.set k (some t')) else .bad
      | none => .bad)
    | _, _, _ => .bad
    else .bad
  | .expr e s, ρ => (ev φ .rd e ρ).go fun _ ρ1 => evS φ io s ρ1
  | .ret e, ρ => (ev φ .mv e ρ).go fun t ρ1 => .ret t ρ1
  | .retN, ρ => .ret (.leaf .none) ρ
  | .ite c a b s, ρ => (condR (ev φ .cd c ρ)).go fun k ρ1 => (if k = true then evS φ io a ρ1 else evS φ io b ρ1).thn fun ρ2 => evS φ io s ρ2
  | .for p it body s, ρ => (evIt φ it ρ).go fun ds ρ1 => (O.map1 (putIt ρ1 it) (forM (fun d ρ2 => match bindIo (ioIt it ρ1 ++ io) p d ρ2 with
      | some ρ3 => evS φ (ioIt it ρ1 ++ io) body ρ3
      | none => .bad) ds (takeIt it ρ1))).thn fun ρ4 => evS φ io s ρ4
  | .while n c body s, ρ => (whileM (fun ρ1 => evS φ io body ρ1) (fun ρ1 => condR (ev φ .cd c ρ1)) n ρ).thn fun ρ2 => evS φ io s ρ2
  | .brk, ρ => .brk ρ
  | .cont, ρ => .cont ρ
  | .pass s, ρ => evS φ io s ρ
  | .dead, _ => .bad
  | .lendS k j st s, ρ => match stepsD ρ st with
    | some ds => if k ∉ io ∧ k ≠ j ∧ k < ρ.length then pickO (fun a => match lendR k j ds a ρ with | some ρ1 => backO k j ds a (evS φ (k :: j :: io) s ρ1) | none => .bad) else .bad
    | none => .bad
/-! ### a table of functions, called so deep -/
structure Fn where
  np : Nat
  nv : Nat
  body : S
def ioOf : Nat → List T → List Nat
  | _, [] => []
  | n, t :: ts => if t.free = true then ioOf (n + 1) ts else n :: ioOf (n + 1) ts
def outsOf (ts : List T) (n : Nat) (ρ : Rho) : List (Option T) :=
  match ts with
  | [] => []
  | t :: r => (if t.free = true then none else getSlot ρ n) :: outsOf r (n + 1) ρ
/-- every owned argument is back in its slot -/
def allBack : List T → List (Option T) → Bool
  | [], [] => true
  | t :: ts, o :: os => (t.free || o.isSome) && allBack ts os
  | _, _ => false
def frOf (ts : List T) (o : O) : FR :=
  match o with
  | .next ρ => if allBack ts (outsOf ts 0 ρ) = true then .ret (.leaf .none) (outsOf ts 0 ρ) else .bad
  | .ret t ρ => if allBack ts (outsOf ts 0 ρ) = true then .ret t (outsOf ts 0 ρ) else .bad
  | .exc x ρ => if allBack ts (outsOf ts 0 ρ) = true then .exc x (outsOf ts 0 ρ) else .bad
  | _ => .bad
noncomputable def run (tb : Nat → Option Fn) : Nat → Nat → List T → FR
  | 0, _, _ => .bad
  | n + 1, f, ts => match tb f with
    | some d => if ts.length = d.np then frOf ts (evS (run tb n) (ioOf 0 ts) d.body (ts.map some ++ List.replicate (d.nv - d.np) none)) else .bad
    | none => .bad
end Pz
/-! P2a: how data lie in the abstract heap. -/
namespace Pz
open PySem L2
abbrev Frag := PySem.W.Frag

/-! ### frozen data -/
mutual
def Rp (K : Frag) (H : Hp) : D → V → Prop
  | .none, v => v = .non
  | .bool b, v => v = .bl b
  | .int i, v => v = .int i
  | .str x, v => v = .str x
  | .list ds, v => ∃ a vs, v = .ref a ∧ H a = some (.lst vs) ∧ RpL K H ds vs
  | .tuple ds, v => ∃ a vs, v = .ref a ∧ SqT K H a vs ∧ RpL K H ds vs
  | .dict _, _ => False
def RpL (K : Frag) (H : Hp) : List D → List V → Prop
  | [], vs => vs = []
  | d :: ds, vs => ∃ v r, vs = v :: r ∧ Rp K H d v ∧ RpL K H ds r
end
def Le (H H' : Hp) : Prop := ∀ b o, H b = some o → H' b = some o
theorem Le.refl (H : Hp) : Le H H := fun _ _ h => h
theorem Le.trans {H H1 H2 : Hp} (a : Le H H1) (b : Le H1 H2) : Le H H2 := fun c o h => b c o (a c o h)
theorem SqT.le {K : Frag} {H H' : Hp} {a : Addr} {xs : List V} (l : Le H H') (h : SqT K H a xs) : SqT K H' a xs := by
  rcases h with (h | ⟨o, h⟩) | h
  · exact .inl (.inl (l _ _ h))
  · exact .inl (.inr ⟨o, l _ _ h⟩)
  · exact .inr h
theorem SqL.le {K : Frag} {H H' : Hp} {a : Addr} {xs : List V} (l : Le H H') (h : SqL K H a xs) : SqL K H' a xs := by
  rcases h with (h | ⟨o, h⟩) | h
  · exact .inl (.inl (l _ _ h))
  · exact .inl (.inr ⟨o, l _ _ h⟩)
  · exact .inr h
section
variable {K : Frag} {H H' : Hp}
mutual
theorem Rp.le (l : Le H H') : ∀ {d : D} {v : V}, Rp K H d v → Rp K H' d v
  | .none, _, h => h
  | .bool _, _, h => h
  | .int _, _, h => h
  | .str _, _, h => h
  | .list ds, _, h => by
    obtain ⟨a, vs, e, ha, r⟩ := h
    exact ⟨a, vs, e, l _ _ ha, RpL.le l r⟩
  | .tuple ds, _, h => by
    obtain ⟨a, vs, e, ha, r⟩ := h
    exact ⟨a, vs, e, SqT.le l ha, RpL.le l r⟩
  | .dict _, _, h => h
theorem RpL.le (l : Le H H') : ∀ {ds : List D} {vs : List V}, RpL K H ds vs → RpL K H' ds vs
  | [], _, h => h
  | d :: ds, _, h => by
    obtain ⟨v, r, e, h1, h2⟩ := h
    exact ⟨v, r, e, Rp.le l h1, RpL.le l h2⟩
end
mutual
theorem Rp.dp : ∀ {d : D} {v : V}, Rp K H d v → Dp K H v d
  | .none, _, h => by cases h; exact .non
  | .bool _, _, h => by cases h; exact .bl _
  | .int _, _, h => by cases h; exact .int _
  | .str _, _, h => by cases h; exact .str _
  | .list ds, _, h => by
    obtain ⟨a, vs, e, ha, r⟩ := h
    subst e
    exact .lst (SqL.of ha) (RpL.dp r)
  | .tuple ds, _, h => by
    obtain ⟨a, vs, e, ha, r⟩ := h
    subst e
    exact .tup ha (RpL.dp r)
  | .dict _, _, h => False.elim h
theorem RpL.dp : ∀ {ds : List D} {vs : List V}, RpL K H ds vs → DpAll K H vs ds
  | [], _, h => by cases h; exact .nil
  | d :: ds, _, h => by
    obtain ⟨v, r, e, h1, h2⟩ := h
    subst e
    exact .cons (Rp.dp h1) (RpL.dp h2)
end
theorem RpL.nil : RpL K H [] [] := rfl
theorem RpL.cons {d : D} {v : V} {ds : List D} {vs : List V} (h : Rp K H d v) (t : RpL K H ds vs) : RpL K H (d :: ds) (v :: vs) := ⟨v, vs, rfl, h, t⟩
theorem RpL.len : ∀ {ds : List D} {vs : List V}, RpL K H ds vs → ds.length = vs.length
  | [], _, h => by cases h; rfl
  | _ :: _, _, h => by
    obtain ⟨v, r, e, _, h2⟩ := h
    subst e
    simp [RpL.len h2]
theorem RpL.get : ∀ {ds : List D} {vs : List V} {i : Nat} {d : D}, RpL K H ds vs → ds[i]? = some d → ∃ v, vs[i]? = some v ∧ Rp K H d v
  | [], _, _, _, _, e => by simp at e
  | d :: ds, _, 0, x, h, e => by
    obtain ⟨v, r, e1, h1, h2⟩ := h
    subst e1
    simp at e
    subst e
    exact ⟨v, rfl, h1⟩
  | d :: ds, _, i + 1, x, h, e => by
    obtain ⟨v, r, e1, h1, h2⟩ := h
    subst e1
    obtain ⟨w, e2, h3⟩ := RpL.get (i := i) (d := x) h2 (by simpa using e)
    exact ⟨w, by simpa using e2, h3⟩
theorem RpL.append : ∀ {ds es : List D} {vs ws : List V}, RpL K H ds vs → RpL K H es ws → RpL K H (ds ++ es) (vs ++ ws)
  | [], _, _, _, h, h' => by cases h; exact h'
  | _ :: _, _, _, _, h, h' => by
    obtain ⟨v, r, e, h1, h2⟩ := h
    subst e
    exact ⟨v, _, rfl, h1, RpL.append h2 h'⟩
theorem RpL.take : ∀ {ds : List D} {vs : List V} (n : Nat), RpL K H ds vs → RpL K H (ds.take n) (vs.take n)
  | [], _, n, h => by cases h; simp [RpL]
  | _ :: _, _, 0, h => rfl
  | _ :: _, _, n + 1, h => by
    obtain ⟨v, r, e, h1, h2⟩ := h
    subst e
    exact ⟨v, _, rfl, h1, RpL.take n h2⟩
theorem RpL.drop : ∀ {ds : List D} {vs : List V} (n : Nat), RpL K H ds vs → RpL K H (ds.drop n) (vs.drop n)
  | [], _, n, h => by cases h; simp [RpL]
  | _ :: _, _, 0, h => h
  | _ :: _, _, n + 1, h => by
    obtain ⟨v, r, e, h1, h2⟩ := h
    subst e
    exact RpL.drop n h2
theorem RpL.snoc {ds : List D} {vs : List V} {d : D} {v : V} (h : RpL K H ds vs) (h1 : Rp K H d v) : RpL K H (ds ++ [d]) (vs ++ [v]) := h.append (.cons h1 rfl)
theorem RpL.reverse : ∀ {ds : List D} {vs : List V}, RpL K H ds vs → RpL K H ds.reverse vs.reverse
  | [], _, h => by cases h; rfl
  | _ :: _, _, h => by
    obtain ⟨v, r, e, h1, h2⟩ := h
    subst e
    rw [List.reverse_cons, List.reverse_cons]
    exact (RpL.reverse h2).snoc h1
theorem RpL.rep {ds : List D} {vs : List V} (h : RpL K H ds vs) : ∀ k : Nat, RpL K H (List.replicate k ds).flatten (List.replicate k vs).flatten
  | 0 => rfl
  | k + 1 => by
    rw [List.replicate_succ, List.replicate_succ, List.flatten_cons, List.flatten_cons]
    exact h.append (RpL.rep h k)
theorem RpL.ints : ∀ {ds : List D} {vs : List V} {ns : List Int}, RpL K H ds vs → intsOf ds = some ns → vs = ns.map V.int ∧ ds = ns.map .int
  | [], _, ns, h, e => by
    cases h
    cases e
    exact ⟨rfl, rfl⟩
  | d :: ds, _, ns, h, e => by
    obtain ⟨v, r, e1, h1, h2⟩ := h
    subst e1
    cases d with
    | int i =>
      unfold intsOf at e
      cases q : intsOf ds with
      | none => rw [q] at e; cases e
      | some is =>
        rw [q] at e
        cases e
        obtain ⟨e2, e3⟩ := RpL.ints h2 q
        have e4 : v = V.int i := h1
        subst e4
        subst e2
        subst e3
        exact ⟨rfl, rfl⟩
    | _ => cases e
theorem RpL.strs : ∀ {ds : List D} {vs : List V} {ns : List Str}, RpL K H ds vs → strsOf ds = some ns → vs = ns.map V.str ∧ ds = ns.map .str
  | [], _, ns, h, e => by
    cases h
    cases e
    exact ⟨rfl, rfl⟩
  | d :: ds, _, ns, h, e => by
    obtain ⟨v, r, e1, h1, h2⟩ := h
    subst e1
    cases d with
    | str i =>
      unfold strsOf at e
      cases q : strsOf ds with
      | none => rw [q] at e; cases e
      | some is =>
        rw [q] at e
        cases e
        obtain ⟨e2, e3⟩ := RpL.strs h2 q
        have e4 : v = V.str i := h1
        subst e4
        subst e2
        subst e3
        exact ⟨rfl, rfl⟩
    | _ => cases e
theorem RpL.bls : ∀ {ds : List D} {vs : List V} {ns : List Bool}, RpL K H ds vs → boolsOf ds = some ns → vs = ns.map V.bl ∧ ds = ns.map .bool
  | [], _, ns, h, e => by
    cases h
    cases e
    exact ⟨rfl, rfl⟩
  | d :: ds, _, ns, h, e => by
    obtain ⟨v, r, e1, h1, h2⟩ := h
    subst e1
    cases d with
    | bool i =>
      unfold boolsOf at e
      cases q : boolsOf ds with
      | none => rw [q] at e; cases e
      | some is =>
        rw [q] at e
        cases e
        obtain ⟨e2, e3⟩ := RpL.bls h2 q
        have e4 : v = V.bl i := h1
        subst e4
        subst e2
        subst e3
        exact ⟨rfl, rfl⟩
    | _ => cases e
theorem RpL.mapInt : ∀ (ns : List Int), RpL K H (ns.map .int) (ns.map V.int)
  | [] => rfl
  | n :: ns => .cons rfl (RpL.mapInt ns)
theorem RpL.mapStr : ∀ (ns : List Str), RpL K H (ns.map .str) (ns.map V.str)
  | [] => rfl
  | n :: ns => .cons rfl (RpL.mapStr ns)
end

/-! ### owned trees -/
mutual
def Ow (K : Frag) (G H : Hp) : T → V → List Addr → Prop
  | .leaf d, v, fp => Rp K G d v ∧ fp = []
  | .lst ts, v, fp => ∃ a vs f, v = .ref a ∧ H a = some (.lst vs) ∧ fp = a :: f ∧ OwL K G H ts vs f
  | .dct kvs, v, fp => ∃ a ws f, v = .ref a ∧ H a = some (.dK ws) ∧ fp = a :: f ∧ (kvs.map (·.1)).Nodup ∧ OwD K G H kvs ws f
  | .rng lo hi, v, fp => ∃ a, v = .ref a ∧ G a = some (.rng lo hi) ∧ fp = []
  | .scr ns, v, fp => ∃ a, v = .ref a ∧ SqL K G a (ns.map V.int) ∧ fp = []
  | .hole a, v, fp => v = .ref a ∧ fp = []
  | .xcp a dd x, v, fp => v = .ref a ∧ fp = [] ∧ ∃ ws, G dd = some (.xd ws) ∧ ws.map (·.1) = x.fs.map (·.1) ∧ RpL K G (x.fs.map (·.2)) (ws.map (·.2))
def OwL (K : Frag) (G H : Hp) : List T → List V → List Addr → Prop
  | [], vs, fp => vs = [] ∧ fp = []
  | t :: ts, vs, fp => ∃ v r f1 f2, vs = v :: r ∧ fp = f1 ++ f2 ∧ Ow K G H t v f1 ∧ OwL K G H ts r f2
def OwD (K : Frag) (G H : Hp) : List (Key × T) → List (Key × V) → List Addr → Prop
  | [], ws, fp => ws = [] ∧ fp = []
  | (k, t) :: ts, ws, fp => ∃ v r f1 f2, ws = (k, v) :: r ∧ fp = f1 ++ f2 ∧ Ow K G H t v f1 ∧ OwD K G H ts r f2
end
section
variable {K : Frag} {G G' H H' : Hp}
mutual
theorem Ow.le (g : Le G G') : ∀ {t : T} {v : V} {fp : List Addr}, (∀ a ∈ fp, ∀ o, H a = some o → H' a = some o) → Ow K G H t v fp → Ow K G' H' t v fp
  | .leaf d, v, fp, _, x => ⟨Rp.le g x.1, x.2⟩
  | .lst ts, v, fp, h, x => by
    obtain ⟨a, vs, f, e, ha, ef, r⟩ := x
    subst ef
    exact ⟨a, vs, f, e, h a (by simp) _ ha, rfl, OwL.le g (fun b hb => h b (by simp [hb])) r⟩
  | .dct kvs, v, fp, h, x => by
    obtain ⟨a, vs, f, e, ha, ef, r⟩ := x
    subst ef
    obtain ⟨nd, r⟩ := r
    exact ⟨a, vs, f, e, h a (by simp) _ ha, rfl, nd, OwD.le g (fun b hb => h b (by simp [hb])) r⟩
  | .rng lo hi, v, fp, h, x => by
    obtain ⟨a, e, ha, ef⟩ := x
    exact ⟨a, e, g _ _ ha, ef⟩
  | .scr ns, v, fp, h, x => by
    obtain ⟨a, e, ha, ef⟩ := x
    exact ⟨a, e, SqL.le g ha, ef⟩
  | .hole a, v, fp, h, x => x
  | .xcp a dd y, v, fp, h, x => by
    obtain ⟨e, ef, ws, e1, e2, r⟩ := x
    exact ⟨e, ef, ws, g _ _ e1, e2, r.le g⟩
theorem OwL.le (g : Le G G') : ∀ {ts : List T} {vs : List V} {fp : List Addr}, (∀ a ∈ fp, ∀ o, H a = some o → H' a = some o) → OwL K G H ts vs fp → OwL K G' H' ts vs fp
  | [], _, _, _, x => x
  | t :: ts, _, _, h, x => by
    obtain ⟨v, r, f1, f2, e, ef, x1, x2⟩ := x
    subst ef
    exact ⟨v, r, f1, f2, e, rfl, Ow.le g (fun b hb => h b (by simp [hb])) x1, OwL.le g (fun b hb => h b (by simp [hb])) x2⟩
theorem OwD.le (g : Le G G') : ∀ {ts : List (Key × T)} {vs : List (Key × V)} {fp : List Addr}, (∀ a ∈ fp, ∀ o, H a = some o → H' a = some o) → OwD K G H ts vs fp → OwD K G' H' ts vs fp
  | [], _, _, _, x => x
  | (k, t) :: ts, _, _, h, x => by
    obtain ⟨v, r, f1, f2, e, ef, x1, x2⟩ := x
    subst ef
    exact ⟨v, r, f1, f2, e, rfl, Ow.le g (fun b hb => h b (by simp [hb])) x1, OwD.le g (fun b hb => h b (by simp [hb])) x2⟩
end
theorem OwL.len : ∀ {ts : List T} {vs : List V} {fp : List Addr}, OwL K G H ts vs fp → ts.length = vs.length
  | [], _, _, x => by simp [x.1]
  | t :: ts, _, _, x => by
    obtain ⟨v, r, f1, f2, e, ef, x1, x2⟩ := x
    subst e
    simp [OwL.len x2]
theorem OwD.len : ∀ {ts : List (Key × T)} {vs : List (Key × V)} {fp : List Addr}, OwD K G H ts vs fp → ts.length = vs.length
  | [], _, _, x => by simp [x.1]
  | (k, t) :: ts, _, _, x => by
    obtain ⟨v, r, f1, f2, e, ef, x1, x2⟩ := x
    subst e
    simp [OwD.len x2]
theorem OwL.append : ∀ {ts us : List T} {vs ws : List V} {f g : List Addr}, OwL K G H ts vs f → OwL K G H us ws g → OwL K G H (ts ++ us) (vs ++ ws) (f ++ g)
  | [], _, _, _, _, _, x, y => by
    obtain ⟨e1, e2⟩ := x
    subst e1 e2
    exact y
  | t :: ts, _, _, _, _, _, x, y => by
    obtain ⟨v, r, f1, f2, e, ef, x1, x2⟩ := x
    subst e ef
    exact ⟨v, _, f1, _, rfl, by simp, x1, OwL.append x2 y⟩
theorem Ow.leaf {d : D} {v : V} (h : Rp K G d v) : Ow K G H (.leaf d) v [] := ⟨h, rfl⟩
theorem OwL.one {t : T} {v : V} {f : List Addr} (h : Ow K G H t v f) : OwL K G H [t] [v] f := ⟨v, [], f, [], rfl, by simp, h, rfl, rfl⟩
theorem OwL.leaves_of : ∀ {ts : List T} {vs : List V} {fp : List Addr} {ds : List D}, leaves ts = some ds → OwL K G H ts vs fp → RpL K G ds vs ∧ fp = []
  | [], _, _, _, e, x => by
    cases e
    exact x
  | t :: ts, _, _, ds, e, x => by
    obtain ⟨v, r, f1, f2, e1, ef, x1, x2⟩ := x
    cases t with
    | leaf d =>
      unfold leaves at e
      cases q : leaves ts with
      | none => rw [q] at e; cases e
      | some es =>
        rw [q] at e
        cases e
        obtain ⟨y1, y2⟩ := OwL.leaves_of q x2
        obtain ⟨z1, z2⟩ := x1
        subst e1 ef y2 z2
        exact ⟨.cons z1 y1, rfl⟩
    | _ => cases e
theorem OwL.of_leaves : ∀ {ds : List D} {vs : List V}, RpL K G ds vs → OwL K G H (ds.map .leaf) vs []
  | [], _, h => ⟨h, rfl⟩
  | d :: ds, _, h => by
    obtain ⟨v, r, e, h1, h2⟩ := h
    exact ⟨v, r, [], [], e, rfl, ⟨h1, rfl⟩, OwL.of_leaves h2⟩
theorem leaves_map : ∀ ds : List D, leaves (ds.map .leaf) = some ds
  | [] => rfl
  | d :: ds => by simp [leaves, leaves_map ds]
theorem OwL.get : ∀ {ts : List T} {vs : List V} {fp : List Addr} {i : Nat} {t : T}, OwL K G H ts vs fp → ts[i]? = some t → ∃ v f, vs[i]? = some v ∧ Ow K G H t v f ∧ ∀ a ∈ f, a ∈ fp
  | [], _, _, _, _, _, e => by simp at e
  | t :: ts, _, _, 0, _, x, e => by
    obtain ⟨v, r, f1, f2, e1, ef, x1, x2⟩ := x
    subst e1 ef
    simp at e
    subst e
    exact ⟨v, f1, rfl, x1, fun a h => by simp [h]⟩
  | t :: ts, _, _, i + 1, u, x, e => by
    obtain ⟨v, r, f1, f2, e1, ef, x1, x2⟩ := x
    subst e1 ef
    obtain ⟨w, f, e2, x3, hs⟩ := OwL.get (i := i) (t := u) x2 (by simpa using e)
    exact ⟨w, f, by simpa using e2, x3, fun a h => by simp [hs a h]⟩
theorem valV_cons {k j : Key} {v : V} {r : List (Key × V)} : valV ((k, v) :: r) j = if k = j then some v else valV r j := by
  by_cases h : k = j
  · rw [valV_pos (p := (k, v)) h, if_pos h]
  · rw [valV_neg (p := (k, v)) h, if_neg h]
theorem OwD.get : ∀ {ts : List (Key × T)} {vs : List (Key × V)} {fp : List Addr} {k : Key} {t : T}, OwD K G H ts vs fp → getK ts k = some t → ∃ v f, valV vs k = some v ∧ Ow K G H t v f ∧ ∀ a ∈ f, a ∈ fp
  | [], _, _, _, _, _, e => by cases e
  | (j, t) :: ts, _, _, k, u, x, e => by
    obtain ⟨v, r, f1, f2, e1, ef, x1, x2⟩ := x
    subst e1 ef
    unfold getK at e
    rw [valV_cons]
    by_cases h : j = k
    · rw [if_pos h] at e ⊢
      cases e
      exact ⟨v, f1, rfl, x1, fun a h => by simp [h]⟩
    · rw [if_neg h] at e ⊢
      obtain ⟨w, f, e2, x3, hs⟩ := OwD.get x2 e
      exact ⟨w, f, e2, x3, fun a h => by simp [hs a h]⟩
theorem OwD.none : ∀ {ts : List (Key × T)} {vs : List (Key × V)} {fp : List Addr} {k : Key}, OwD K G H ts vs fp → getK ts k = none → valV vs k = none
  | [], _, _, _, x, e => by rw [x.1]; rfl
  | (j, t) :: ts, _, _, k, x, e => by
    obtain ⟨v, r, f1, f2, e1, ef, x1, x2⟩ := x
    subst e1 ef
    unfold getK at e
    rw [valV_cons]
    by_cases h : j = k
    · rw [if_pos h] at e
      cases e
    · rw [if_neg h] at e ⊢
      exact OwD.none x2 e
mutual
theorem Ow.toD (g : Le G G') : ∀ {t : T} {v : V} {fp : List Addr} {d : D}, (∀ a ∈ fp, ∀ o, H a = some o → G' a = some o) → t.toD = some d → Ow K G H t v fp → Rp K G' d v
  | .leaf d, v, fp, _, h, e, x => by
    cases e
    exact Rp.le g x.1
  | .lst ts, v, fp, d, h, e, x => by
    obtain ⟨a, vs, f, e1, ha, ef, r⟩ := x
    subst ef
    unfold T.toD at e
    cases q : toDs ts with
    | none => rw [q] at e; cases e
    | some ds =>
      rw [q] at e
      cases e
      exact ⟨a, vs, e1, h a (by simp) _ ha, OwL.toDs g (fun b hb => h b (by simp [hb])) q r⟩
  | .dct _, _, _, _, _, e, _ => by cases e
  | .rng _ _, _, _, _, _, e, _ => by cases e
  | .scr _, _, _, _, _, e, _ => by cases e
  | .hole _, _, _, _, _, e, _ => by cases e
  | .xcp _ _ _, _, _, _, _, e, _ => by cases e
theorem OwL.toDs (g : Le G G') : ∀ {ts : List T} {vs : List V} {fp : List Addr} {ds : List D}, (∀ a ∈ fp, ∀ o, H a = some o → G' a = some o) → toDs ts = some ds → OwL K G H ts vs fp → RpL K G' ds vs
  | [], _, _, _, _, e, x => by
    cases e
    exact x.1
  | t :: ts, _, _, ds, h, e, x => by
    obtain ⟨v, r, f1, f2, e1, ef, x1, x2⟩ := x
    subst e1 ef
    unfold Pz.toDs at e
    cases q : t.toD with
    | none => rw [q] at e; cases e
    | some d =>
      rw [q] at e
      cases q2 : Pz.toDs ts with
      | none => rw [q2] at e; cases e
      | some es =>
        rw [q2] at e
        cases e
        exact .cons (Ow.toD g (fun b hb => h b (by simp [hb])) q x1) (OwL.toDs g (fun b hb => h b (by simp [hb])) q2 x2)
end
mutual
theorem Ow.alive : ∀ {t : T} {v : V} {fp : List Addr}, Ow K G H t v fp → ∀ a ∈ fp, ∃ o, H a = some o
  | .leaf d, v, fp, x, a, ha => by rw [x.2] at ha; cases ha
  | .lst ts, v, fp, x, a, ha => by
    obtain ⟨b, vs, f, e1, hb, ef, r⟩ := x
    subst ef
    rcases List.mem_cons.mp ha with rfl | ha
    · exact ⟨_, hb⟩
    · exact OwL.alive r a ha
  | .dct ts, v, fp, x, a, ha => by
    obtain ⟨b, vs, f, e1, hb, ef, nd, r⟩ := x
    subst ef
    rcases List.mem_cons.mp ha with rfl | ha
    · exact ⟨_, hb⟩
    · exact OwD.alive r a ha
  | .rng _ _, v, fp, x, a, ha => by
    obtain ⟨b, e1, hb, ef⟩ := x
    rw [ef] at ha; cases ha
  | .scr _, v, fp, x, a, ha => by
    obtain ⟨b, e1, hb, ef⟩ := x
    rw [ef] at ha; cases ha
  | .hole _, v, fp, x, a, ha => by
    rw [x.2] at ha; cases ha
  | .xcp _ _ _, v, fp, x, a, ha => by
    rw [x.2.1] at ha; cases ha
theorem OwL.alive : ∀ {ts : List T} {vs : List V} {fp : List Addr}, OwL K G H ts vs fp → ∀ a ∈ fp, ∃ o, H a = some o
  | [], vs, fp, x, a, ha => by rw [x.2] at ha; cases ha
  | t :: ts, vs, fp, x, a, ha => by
    obtain ⟨v, r, f1, f2, e1, ef, x1, x2⟩ := x
    subst ef
    rcases List.mem_append.mp ha with ha | ha
    · exact Ow.alive x1 a ha
    · exact OwL.alive x2 a ha
theorem OwD.alive : ∀ {ts : List (Key × T)} {vs : List (Key × V)} {fp : List Addr}, OwD K G H ts vs fp → ∀ a ∈ fp, ∃ o, H a = some o
  | [], vs, fp, x, a, ha => by rw [x.2] at ha; cases ha
  | (k, t) :: ts, vs, fp, x, a, ha => by
    obtain ⟨v, r, f1, f2, e1, ef, x1, x2⟩ := x
    subst ef
    rcases List.mem_append.mp ha with ha | ha
    · exact Ow.alive x1 a ha
    · exact OwD.alive x2 a ha
end
/-- read as data: frozen, or an owned list of frozen things -/
def Fl (K : Frag) (G H : Hp) (d : D) (v : V) : Prop := Rp K G d v ∨ ∃ a vs ds, v = .ref a ∧ d = .list ds ∧ H a = some (.lst vs) ∧ RpL K G ds vs
theorem Ow.flat {t : T} {v : V} {fp : List Addr} {d : D} (e : t.flat = some d) (x : Ow K G H t v fp) : Fl K G H d v := by
  cases t with
  | leaf d' => cases e; exact .inl x.1
  | lst ts =>
    obtain ⟨a, vs, f, e1, ha, ef, r⟩ := x
    simp only [T.flat] at e
    cases q : leaves ts with
    | none => rw [q] at e; cases e
    | some ds =>
      rw [q] at e
      cases e
      exact .inr ⟨a, vs, ds, e1, rfl, ha, (OwL.leaves_of q r).1⟩
  | scr ns => cases e
  | hole _ => cases e
  | xcp _ _ _ => cases e
  | dct _ => cases e
  | rng _ _ => cases e
theorem Fl.dp {d : D} {v : V} (g : Le G H) (h : Fl K G H d v) : Dp K H v d := by
  rcases h with h | ⟨a, vs, ds, e, e2, ha, r⟩
  · exact (Rp.le g h).dp
  · subst e e2
    exact .lst (SqL.of ha) (RpL.le g r).dp
theorem Fl.list {ds : List D} {v : V} (g : Le G H) (h : Fl K G H (.list ds) v) : ∃ a vs, v = .ref a ∧ H a = some (.lst vs) ∧ RpL K G ds vs := by
  rcases h with ⟨a, vs, e, ha, r⟩ | ⟨a, vs, ds', e, e2, ha, r⟩
  · exact ⟨a, vs, e, g _ _ ha, r⟩
  · cases e2
    exact ⟨a, vs, e, ha, r⟩
theorem Fl.tuple {ds : List D} {v : V} (h : Fl K G H (.tuple ds) v) : ∃ a vs, v = .ref a ∧ SqT K G a vs ∧ RpL K G ds vs := by
  rcases h with h | ⟨a, vs, ds', e, e2, ha, r⟩
  · exact h
  · cases e2
end
end Pz
/-! P2b: the state's relation: slots, footprints, what is hidden. -/
namespace Pz
open PySem L2
open Classical in
/-- the heap without what N hides -/
noncomputable def hid (H : Hp) (N : Addr → Prop) : Hp := fun b => if N b then none else H b
theorem hid_some {H : Hp} {N : Addr → Prop} {b : Addr} {o : HO} : hid H N b = some o ↔ ¬ N b ∧ H b = some o := by
  unfold hid
  by_cases h : N b
  · simp [h]
  · simp [h]
theorem hid_le {H : Hp} {N : Addr → Prop} : Le (hid H N) H := fun b o h => (hid_some.mp h).2
/-- seen in a frame whose own footprint is F, Z hidden besides -/
noncomputable abbrev vw (H : Hp) (F : List Addr) (Z : Addr → Prop) : Hp := hid H (fun b => b ∈ F ∨ Z b)
abbrev zp (Z : Addr → Prop) (f : List Addr) : Addr → Prop := fun b => Z b ∨ b ∈ f
theorem vw_le {H H' : Hp} {F F' : List Addr} {Z Z' : Addr → Prop} (h : ∀ b o, H b = some o → b ∉ F → ¬ Z b → H' b = some o ∧ b ∉ F' ∧ ¬ Z' b) : Le (vw H F Z) (vw H' F' Z') := fun b o e => by
  obtain ⟨n, e⟩ := hid_some.mp e
  obtain ⟨h1, h2, h3⟩ := h b o e (fun z => n (.inl z)) (fun z => n (.inr z))
  exact hid_some.mpr ⟨fun z => z.elim h2 h3, h1⟩

def Sl (K : Frag) (G H : Hp) : Rho → List (Option V) → List Addr → Prop
  | [], σ, F => σ = [] ∧ F = []
  | o :: ρ, σ, F => ∃ s σ' f1 f2, σ = s :: σ' ∧ F = f1 ++ f2 ∧ (match o with | none => f1 = [] | some t => ∃ v, s = some v ∧ Ow K G H t v f1) ∧ Sl K G H ρ σ' f2
section
variable {K : Frag} {G G' H H' : Hp}
theorem Sl.len : ∀ {ρ : Rho} {σ : List (Option V)} {F : List Addr}, Sl K G H ρ σ F → ρ.length = σ.length
  | [], _, _, h => by rw [h.1]; rfl
  | o :: ρ, _, _, h => by
    obtain ⟨s, σ', f1, f2, e, ef, h1, h2⟩ := h
    subst e
    simp [Sl.len h2]
theorem Sl.le (g : Le G G') : ∀ {ρ : Rho} {σ : List (Option V)} {F : List Addr}, (∀ a ∈ F, ∀ o, H a = some o → H' a = some o) → Sl K G H ρ σ F → Sl K G' H' ρ σ F
  | [], _, _, _, h => h
  | o :: ρ, _, _, k, h => by
    obtain ⟨s, σ', f1, f2, e, ef, h1, h2⟩ := h
    subst ef
    refine ⟨s, σ', f1, f2, e, rfl, ?_, Sl.le g (fun b hb => k b (by simp [hb])) h2⟩
    cases o with
    | none => exact h1
    | some t =>
      obtain ⟨v, e1, x⟩ := h1
      exact ⟨v, e1, Ow.le g (fun b hb => k b (by simp [hb])) x⟩
theorem Sl.alive : ∀ {ρ : Rho} {σ : List (Option V)} {F : List Addr}, Sl K G H ρ σ F → ∀ a ∈ F, ∃ o, H a = some o
  | [], _, _, h, a, ha => by rw [h.2] at ha; cases ha
  | o :: ρ, _, _, h, a, ha => by
    obtain ⟨s, σ', f1, f2, e, ef, h1, h2⟩ := h
    subst ef
    rcases List.mem_append.mp ha with ha | ha
    · cases o with
      | none => rw [h1] at ha; cases ha
      | some t =>
        obtain ⟨v, e1, x⟩ := h1
        exact x.alive a ha
    · exact Sl.alive h2 a ha
/-- a slot's tree -/
theorem Sl.get : ∀ {ρ : Rho} {σ : List (Option V)} {F : List Addr} {k : Nat} {t : T}, Sl K G H ρ σ F → ρ[k]? = some (some t) → ∃ v f F', σ[k]? = some (some v) ∧ Ow K G H t v f ∧ Sl K G H (ρ.set k none) σ F' ∧ F.Perm (f ++ F')
  | [], _, _, _, _, _, e => by simp at e
  | o :: ρ, _, _, 0, t, h, e => by
    obtain ⟨s, σ', f1, f2, e1, ef, h1, h2⟩ := h
    subst e1 ef
    simp at e
    subst e
    obtain ⟨v, e2, x⟩ := h1
    subst e2
    exact ⟨v, f1, f2, rfl, x, ⟨some v, σ', [], f2, rfl, rfl, rfl, h2⟩, List.Perm.refl _⟩
  | o :: ρ, _, _, k + 1, t, h, e => by
    obtain ⟨s, σ', f1, f2, e1, ef, h1, h2⟩ := h
    subst e1 ef
    obtain ⟨v, f, F', e2, x, h3, p⟩ := Sl.get (k := k) (t := t) h2 (by simpa using e)
    refine ⟨v, f, f1 ++ F', by simpa using e2, x, ⟨s, σ', f1, F', rfl, rfl, h1, h3⟩, ?_⟩
    refine (List.Perm.append_left f1 p).trans ?_
    rw [← List.append_assoc, ← List.append_assoc]
    exact List.Perm.append_right F' List.perm_append_comm
/-- a slot that holds nothing owned is filled -/
theorem Sl.put : ∀ {ρ : Rho} {σ : List (Option V)} {F : List Addr} {k : Nat} {t : T} {v : V} {f : List Addr}, Sl K G H ρ σ F → (ρ[k]? = some none) → σ[k]? = some (some v) → Ow K G H t v f → ∃ F', Sl K G H (ρ.set k (some t)) σ F' ∧ F'.Perm (f ++ F)
  | [], _, _, _, _, _, _, _, e, _, _ => by simp at e
  | o :: ρ, _, _, 0, t, v, f, h, e, e1, x => by
    obtain ⟨s, σ', f1, f2, e2, ef, h1, h2⟩ := h
    subst e2 ef
    simp at e e1
    subst e e1
    rw [show f1 = [] from h1]
    exact ⟨f ++ f2, ⟨some v, σ', f, f2, rfl, rfl, ⟨v, rfl, x⟩, h2⟩, by simp⟩
  | o :: ρ, _, _, k + 1, t, v, f, h, e, e1, x => by
    obtain ⟨s, σ', f1, f2, e2, ef, h1, h2⟩ := h
    subst e2 ef
    obtain ⟨F', h3, p⟩ := Sl.put (k := k) (t := t) (v := v) h2 (by simpa using e) (by simpa using e1) x
    refine ⟨f1 ++ F', ⟨s, σ', f1, F', rfl, rfl, h1, h3⟩, ?_⟩
    refine (List.Perm.append_left f1 p).trans ?_
    rw [← List.append_assoc, ← List.append_assoc]
    exact List.Perm.append_right f2 List.perm_append_comm
/-- a slot is forgotten -/
theorem Sl.drop : ∀ {ρ : Rho} {σ : List (Option V)} {F : List Addr} (k : Nat), Sl K G H ρ σ F → ∃ F', Sl K G H (ρ.set k none) σ F' ∧ ∀ a ∈ F', a ∈ F
  | [], _, F, _, h => ⟨F, h, fun _ z => z⟩
  | o :: ρ, _, _, 0, h => by
    obtain ⟨s, σ', f1, f2, e2, ef, h1, h2⟩ := h
    subst e2 ef
    exact ⟨f2, ⟨s, σ', [], f2, rfl, rfl, rfl, h2⟩, fun a h => by simp [h]⟩
  | o :: ρ, _, _, k + 1, h => by
    obtain ⟨s, σ', f1, f2, e2, ef, h1, h2⟩ := h
    subst e2 ef
    obtain ⟨F', h3, p⟩ := Sl.drop k h2
    refine ⟨f1 ++ F', ⟨s, σ', f1, F', rfl, rfl, h1, h3⟩, fun a ha => ?_⟩
    rcases List.mem_append.mp ha with ha | ha
    · simp [ha]
    · simp [p a ha]
/-- the value of an empty slot does not matter -/
theorem Sl.value : ∀ {ρ : Rho} {σ : List (Option V)} {F : List Addr} {k : Nat} (o : Option V), Sl K G H ρ σ F → (ρ[k]? = some none ∨ ρ.length ≤ k) → Sl K G H ρ (σ.set k o) F
  | [], _, _, _, _, h, _ => by
    rw [h.1, h.2]
    exact ⟨by simp, rfl⟩
  | o :: ρ, _, _, 0, w, h, e => by
    obtain ⟨s, σ', f1, f2, e2, ef, h1, h2⟩ := h
    subst e2 ef
    rcases e with e | e
    · simp at e
      subst e
      exact ⟨w, σ', f1, f2, rfl, rfl, h1, h2⟩
    · simp at e
  | o :: ρ, _, _, k + 1, w, h, e => by
    obtain ⟨s, σ', f1, f2, e2, ef, h1, h2⟩ := h
    subst e2 ef
    refine ⟨s, σ'.set k w, f1, f2, rfl, rfl, h1, Sl.value w h2 ?_⟩
    rcases e with e | e
    · exact .inl (by simpa using e)
    · exact .inr (by simpa using e)
end

/-- the relation between slots' values, abstract heap and the evaluator's state -/
structure St (K : Frag) (Z : Addr → Prop) (σ : L2.St) (H : Hp) (ρ : Rho) (F : List Addr) : Prop where
  sl : ∃ F0, Sl K (vw H F Z) H ρ σ F0 ∧ F0.Perm F
  nd : F.Nodup
  dz : ∀ a ∈ F, ¬ Z a
  zt : ∀ a, Z a → ∃ o, H a = some o
/-- what changed: only what was owned, and what is new -/
structure Ext (pf : Bool) (H : Hp) (F : List Addr) (H' : Hp) (F' : List Addr) : Prop where
  keep : ∀ b o, H b = some o → b ∉ F → H' b = some o
  sub : ∀ a ∈ F', a ∈ F ∨ H a = none
  pure : pf = true → Le H H'
section
variable {K : Frag} {Z Z' : Addr → Prop} {σ : L2.St} {H H' H1 H2 : Hp} {ρ ρ' : Rho} {F F' F1 F2 : List Addr} {pf pf' : Bool}
theorem Ext.refl : Ext pf H F H F := ⟨fun _ _ h _ => h, fun _ h => .inl h, fun _ => Le.refl _⟩
theorem Ext.trans {f g : List Addr} (a : Ext pf H F H1 (F1 ++ f)) (b : Ext pf' H1 F1 H2 (F2 ++ g)) : Ext (pf && pf') H F H2 (F2 ++ (f ++ g)) where
  keep := fun c o h n => b.keep c o (a.keep c o h n) fun z => (a.sub c (by simp [z])).elim n fun e => by rw [e] at h; cases h
  sub := fun c hc => by
    have old : H1 c = none → c ∈ F ∨ H c = none := fun e => by
      by_cases h : c ∈ F
      · exact .inl h
      · cases q : H c with
        | none => exact .inr rfl
        | some o => rw [a.keep c o q h] at e; cases e
    rcases List.mem_append.mp hc with h | h
    · rcases b.sub c (by simp [h]) with h | h
      · exact a.sub c (by simp [h])
      · exact old h
    · rcases List.mem_append.mp h with h | h
      · exact a.sub c (by simp [h])
      · rcases b.sub c (by simp [h]) with h | h
        · exact a.sub c (by simp [h])
        · exact old h
  pure := fun h => by
    rw [Bool.and_eq_true] at h
    exact (a.pure h.1).trans (b.pure h.2)
theorem Ext.mono (a : Ext pf H F H1 F1) (h : ∀ x ∈ F2, x ∈ F1) : Ext pf H F H1 F2 := ⟨a.keep, fun x hx => a.sub x (h x hx), a.pure⟩
theorem Ext.weak (a : Ext pf H F H1 F1) (h : pf' = true → pf = true) : Ext pf' H F H1 F1 := ⟨a.keep, a.sub, fun z => a.pure (h z)⟩
theorem Ext.toF (a : Ext pf H F H1 F1) : Ext false H F H1 F1 := a.weak fun z => by cases z
/-- a new object -/
theorem Ext.alloc {p : Addr} {o : HO} (n : H p = none) : Ext pf H F (upd H p o) F :=
  ⟨fun b u h _ => by rw [upd_ne (ne_of_none h n)]; exact h, fun _ h => .inl h, fun _ b u h => by rw [upd_ne (ne_of_none h n)]; exact h⟩
theorem Ext.alloc1 {p : Addr} {o : HO} (n : H p = none) : Ext pf H F (upd H p o) (F ++ [p]) :=
  ⟨fun b u h _ => by rw [upd_ne (ne_of_none h n)]; exact h, fun x h => (List.mem_append.mp h).elim .inl fun z => .inr (by rw [List.mem_singleton.mp z]; exact n), fun _ b u h => by rw [upd_ne (ne_of_none h n)]; exact h⟩
theorem le_alloc {p : Addr} {o : HO} (n : H p = none) : Le H (upd H p o) := fun b u h => by rw [upd_ne (ne_of_none h n)]; exact h

theorem St.perm (s : St K Z σ H ρ F) (p : F.Perm F') : St K Z σ H ρ F' := by
  have e : vw H F Z = vw H F' Z := by
    unfold vw
    congr 1
    funext b
    exact propext ⟨fun h => h.imp (fun z => p.mem_iff.mp z) id, fun h => h.imp (fun z => p.mem_iff.mpr z) id⟩
  obtain ⟨F0, h, q⟩ := s.sl
  exact ⟨⟨F0, by rw [← e]; exact h, q.trans p⟩, (p.nodup_iff).mp s.nd, fun a h => s.dz a (p.mem_iff.mpr h), s.zt⟩
theorem St.alive (s : St K Z σ H ρ F) : ∀ a ∈ F, ∃ o, H a = some o := by
  obtain ⟨F0, h, p⟩ := s.sl
  exact fun a ha => h.alive a (p.mem_iff.mpr ha)
theorem St.len (s : St K Z σ H ρ F) : ρ.length = σ.length := let ⟨_, h, _⟩ := s.sl; h.len
/-- less hidden -/
theorem St.unz (s : St K Z' σ H ρ F) (h : ∀ a, Z a → Z' a) : St K Z σ H ρ F := by
  obtain ⟨F0, x, p⟩ := s.sl
  refine ⟨⟨F0, x.le (vw_le fun b o e n1 n2 => ⟨e, n1, fun z => n2 (h b z)⟩) (fun _ _ _ q => q), p⟩, s.nd, fun a ha z => s.dz a ha (h a z), fun a z => s.zt a (h a z)⟩
/-- new objects -/
theorem St.grow (s : St K Z σ H ρ F) (l : Le H H') : St K Z σ H' ρ F := by
  obtain ⟨F0, x, p⟩ := s.sl
  refine ⟨⟨F0, x.le (vw_le fun b o e n1 n2 => ⟨l b o e, n1, n2⟩) (fun a _ o q => l a o q), p⟩, s.nd, s.dz, fun a z => let ⟨o, e⟩ := s.zt a z; ⟨o, l a o e⟩⟩
/-- what a slot holds -/
theorem St.get {k : Nat} {t : T} (s : St K Z σ H ρ F) (e : getSlot ρ k = some t) : ∃ v f, σ[k]? = some (some v) ∧ Ow K (vw H F Z) H t v f ∧ ∀ a ∈ f, a ∈ F := by
  obtain ⟨F0, x, p⟩ := s.sl
  have e' : ρ[k]? = some (some t) := by
    unfold getSlot at e
    split at e
    · rename_i q; cases e; exact q
    · cases e
  obtain ⟨v, f, F', e1, o, _, q⟩ := x.get e'
  exact ⟨v, f, e1, o, fun a h => p.mem_iff.mp (q.mem_iff.mpr (by simp [h]))⟩
theorem getSlot_iff {k : Nat} {t : T} : getSlot ρ k = some t ↔ ρ[k]? = some (some t) := by
  unfold getSlot
  constructor
  · intro e
    split at e
    · rename_i q; cases e; exact q
    · cases e
  · intro e; rw [e]
theorem Ow.view {t : T} {v : V} {f : List Addr} {G G' : Hp} (x : Ow K G H t v f) (g : Le G G') : Ow K G' H t v f := x.le g fun _ _ _ e => e
/-- a slot's tree is taken out; it stays hidden -/
theorem St.take {k : Nat} {t : T} (s : St K Z σ H ρ F) (e : getSlot ρ k = some t) : ∃ v f F', σ[k]? = some (some v) ∧ Ow K (vw H F' (zp Z f)) H t v f ∧ St K (zp Z f) σ H (ρ.set k none) F' ∧ F.Perm (f ++ F') ∧ f.Nodup ∧ ∀ a ∈ f, ¬ Z a := by
  obtain ⟨F0, x, p⟩ := s.sl
  obtain ⟨v, f, F', e1, o, x', q⟩ := x.get (getSlot_iff.mp e)
  have pm : F.Perm (f ++ F') := p.symm.trans q
  have nd := pm.nodup_iff.mp s.nd
  have view : Le (vw H F Z) (vw H F' (zp Z f)) := vw_le fun b o e n1 n2 => ⟨e, fun z => n1 (pm.mem_iff.mpr (by simp [z])), fun z => z.elim n2 fun z => n1 (pm.mem_iff.mpr (by simp [z]))⟩
  refine ⟨v, f, F', e1, o.view view, ⟨⟨F', x'.le view fun _ _ _ e => e, List.Perm.refl _⟩, (List.nodup_append.mp nd).2.1, fun a ha z => ?_, fun a z => ?_⟩, pm, (List.nodup_append.mp nd).1, fun a ha => s.dz a (pm.mem_iff.mpr (by simp [ha]))⟩
  · rcases z with z | z
    · exact s.dz a (pm.mem_iff.mpr (by simp [ha])) z
    · exact (List.nodup_append.mp nd).2.2 a z a ha rfl
  · rcases z with z | z
    · exact s.zt a z
    · exact x.alive a (q.mem_iff.mpr (by simp [z]))
/-- an empty slot is filled with a tree in the air -/
theorem St.put {k : Nat} {t : T} {v : V} {f : List Addr} (s : St K (zp Z f) σ H ρ F) (e : ρ[k]? = some none) (e1 : σ[k]? = some (some v)) (o : Ow K (vw H F (zp Z f)) H t v f) (nf : f.Nodup) (dz : ∀ a ∈ f, ¬ Z a) :
    St K Z σ H (ρ.set k (some t)) (f ++ F) := by
  obtain ⟨F0, x, p⟩ := s.sl
  have view : Le (vw H F (zp Z f)) (vw H (f ++ F) Z) := vw_le fun b o e n1 n2 => ⟨e, fun z => (List.mem_append.mp z).elim (fun z => n2 (.inr z)) n1, fun z => n2 (.inl z)⟩
  obtain ⟨F', x', q⟩ := (x.le view fun _ _ _ e => e).put e e1 (o.view view)
  refine ⟨⟨F', x', q.trans (List.Perm.append_left f p)⟩, List.nodup_append.mpr ⟨nf, s.nd, fun a ha b hb z => ?_⟩, fun a ha => ?_, fun a z => s.zt a (.inl z)⟩
  · subst z
    exact s.dz a hb (.inr ha)
  · rcases List.mem_append.mp ha with h | h
    · exact dz a h
    · exact fun z => s.dz a h (.inl z)
/-- a slot's value may be anything once it is empty -/
theorem St.value {k : Nat} (s : St K Z σ H ρ F) (o : Option V) (e : ρ[k]? = some none) : St K Z (σ.set k o) H ρ F := by
  obtain ⟨F0, x, p⟩ := s.sl
  exact ⟨⟨F0, x.value o (.inl e), p⟩, s.nd, s.dz, s.zt⟩
/-- forgetting a slot -/
theorem St.drop (s : St K Z σ H ρ F) (k : Nat) : ∃ F', St K Z σ H (ρ.set k none) F' ∧ ∀ a ∈ F', a ∈ F := by
  cases q : getSlot ρ k with
  | some t =>
    obtain ⟨v, f, F', _, _, s', p, _, _⟩ := s.take q
    exact ⟨F', s'.unz fun a h => .inl h, fun a h => p.mem_iff.mpr (by simp [h])⟩
  | none =>
    refine ⟨F, ?_, fun _ h => h⟩
    have e : ρ.set k none = ρ := by
      apply List.ext_getElem?
      intro i
      by_cases h : k = i
      · subst h
        by_cases hl : k < ρ.length
        · rw [List.getElem?_set_self hl]
          unfold getSlot at q
          cases r : ρ[k]? with
          | none => rw [List.getElem?_eq_none_iff] at r; omega
          | some o =>
            cases o with
            | none => rfl
            | some t => rw [r] at q; cases q
        · rw [List.getElem?_eq_none (by simpa using hl), List.getElem?_eq_none (by simpa using hl)]
      · rw [List.getElem?_set_ne h]
    rw [e]
    exact s
/-- a slot is stored anew -/
theorem St.store {k : Nat} {t : T} {v : V} {f : List Addr} (s : St K (zp Z f) σ H ρ F) (hk : k < ρ.length) (o : Ow K (vw H F (zp Z f)) H t v f) (nf : f.Nodup) (dz : ∀ a ∈ f, ¬ Z a) :
    ∃ F', St K Z (σ.set k (some v)) H (ρ.set k (some t)) F' ∧ ∀ a ∈ F', a ∈ f ++ F := by
  obtain ⟨F', s', sub⟩ := s.drop k
  have e : (ρ.set k none)[k]? = some none := by rw [List.getElem?_set_self hk]
  have hs : k < σ.length := by rw [← s.len]; exact hk
  have view : Le (vw H F (zp Z f)) (vw H F' (zp Z f)) := vw_le fun b o e n1 n2 => ⟨e, fun z => n1 (sub b z), n2⟩
  have s2 := (s'.value (some v) e).put e (by rw [List.getElem?_set_self hs]) (o.view view) nf dz
  rw [List.set_set] at s2
  exact ⟨_, s2, fun a h => (List.mem_append.mp h).elim (fun z => by simp [z]) fun z => by simp [sub a z]⟩
/-- the view after a step -/
theorem Ext.view {f : List Addr} (x : Ext pf H F H1 (F1 ++ f)) : Le (vw H F Z) (vw H1 F1 (zp Z f)) := vw_le fun b o e n1 n2 => by
  have no : b ∈ F1 ++ f → False := fun z => (x.sub b z).elim n1 fun q => by rw [q] at e; cases e
  exact ⟨x.keep b o e n1, fun z => no (by simp [z]), fun z => z.elim n2 fun z => no (by simp [z])⟩
/-- a tree in the air after a step of the frame -/
theorem Ow.step {t : T} {v : V} {f g : List Addr} (o : Ow K (vw H F (zp Z f)) H t v f) (s : St K (zp Z f) σ H ρ F) (x : Ext pf H F H1 (F1 ++ g)) : Ow K (vw H1 F1 (zp (zp Z f) g)) H1 t v f :=
  o.le x.view fun a ha u e => x.keep a u e fun z => s.dz a z (.inr ha)
end
end Pz
/-! P2c: what an evaluation promises; operands; how results are handed on. -/
namespace Pz
open PySem L2
/-- how an exception lies -/
def ExR (ca : Nat → Addr) (K : Frag) (G H : Hp) (x : Exc) (cls : Value) (d : Option Addr) : Prop :=
  cls = .ref (ca x.c) ∧ ∃ dd ws, d = some dd ∧ G dd = some (.xd ws) ∧ ws.map (·.1) = x.fs.map (·.1) ∧ RpL K G (x.fs.map (·.2)) (ws.map (·.2))
def SatR {α : Type} (ca : Nat → Addr) (K : Frag) (W : WX) (Z : Addr → Prop) (σ : L2.St) (H : Hp) (F : List Addr) (r : R α) (k : α → Rho → Prop) : Prop :=
  match r with
  | .ok a ρ' => k a ρ'
  | .exc x ρ' => ∀ cls d H' F', St K Z σ H' ρ' F' → Ext false H F H' F' → ExR ca K (vw H' F' Z) H' x cls d → W cls d σ H'
  | .bad => False
/-- a tree in the air -/
def Tmp (K : Frag) (Z : Addr → Prop) (H : Hp) (F : List Addr) (t : T) (v : V) (fp : List Addr) : Prop :=
  fp.Nodup ∧ (∀ a ∈ fp, ¬ Z a) ∧ Ow K (vw H F (zp Z fp)) H t v fp
def Air (K : Frag) (Z : Addr → Prop) (σ : L2.St) (H : Hp) (ρ : Rho) (F : List Addr) (m : M) (e : E) (t : T) (v : V) (fp : List Addr) : Prop :=
  match e with
  | .var k => if m = .rd then fp = [] ∧ σ[k]? = some (some v) ∧ getSlot ρ k = some t else Tmp K Z H F t v fp ∧ σ[k]? = some (some v)
  | .idx _ _ => if m = .rd then fp = [] ∧ ∃ fq, Ow K (vw H F Z) H t v fq else Tmp K Z H F t v fp
  | _ => Tmp K Z H F t v fp
def Post (K : Frag) (Z : Addr → Prop) (σ : L2.St) (H : Hp) (F : List Addr) (m : M) (e : E) (t : T) (ρ' : Rho) (Q : VK) : Prop :=
  ∀ v H' F' fp, St K (zp Z fp) σ H' ρ' F' → Ext (pureE e) H F H' (F' ++ fp) → Air K Z σ H' ρ' F' m e t v fp → Q v H'
def PostC (K : Frag) (Z : Addr → Prop) (σ : L2.St) (H : Hp) (F : List Addr) (t : T) (ρ' : Rho) (Q : Bool → Hp → Prop) : Prop :=
  ∃ b, t = .leaf (.bool b) ∧ ∀ H' F', St K Z σ H' ρ' F' → Ext false H F H' F' → Q b H'
def xE (φ : Nat → List T → FR) (ca : Nat → Addr) (K : Frag) (W : WX) (m : M) (e : E) : TE := fun σ H Q =>
  ∃ Z ρ F, St K Z σ H ρ F ∧ SatR ca K W Z σ H F (ev φ m e ρ) fun t ρ' => Post K Z σ H F m e t ρ' Q
def xC (φ : Nat → List T → FR) (ca : Nat → Addr) (K : Frag) (W : WX) (e : E) : TT := fun σ H Q =>
  ∃ Z ρ F, St K Z σ H ρ F ∧ SatR ca K W Z σ H F (ev φ .cd e ρ) fun t ρ' => PostC K Z σ H F t ρ' Q

/-- several trees in the air -/
def TmpL (K : Frag) (Z : Addr → Prop) (H : Hp) (F : List Addr) (ts : List T) (vs : List V) (fp : List Addr) : Prop :=
  fp.Nodup ∧ (∀ a ∈ fp, ¬ Z a) ∧ OwL K (vw H F (zp Z fp)) H ts vs fp
/-- arguments that are variables: the values that stand there -/
def ArgV (σ : L2.St) : Es → List V → Prop
  | .cons (.var k) es, v :: vs => σ[k]? = some (some v) ∧ ArgV σ es vs
  | .cons _ es, _ :: vs => ArgV σ es vs
  | _, _ => True
def xA (φ : Nat → List T → FR) (ca : Nat → Addr) (K : Frag) (W : WX) (es : Es) : TA := fun σ H Q =>
  ∃ Z ρ F, St K Z σ H ρ F ∧ SatR ca K W Z σ H F (evEs φ es ρ) fun ts ρ' => ∀ vs H' F' fp, St K (zp Z fp) σ H' ρ' F' → Ext (pureEs es) H F H' (F' ++ fp) → TmpL K Z H' F' ts vs fp → ArgV σ es vs → Q vs H'

theorem zp_nil {Z : Addr → Prop} : zp Z [] = Z := by
  funext b
  simp [zp]
theorem Tmp.leaf {K : Frag} {Z : Addr → Prop} {H : Hp} {F : List Addr} {d : D} {v : V} (h : Rp K (vw H F Z) d v) : Tmp K Z H F (.leaf d) v [] :=
  ⟨List.nodup_nil, fun _ z => (nomatch z), by rw [zp_nil]; exact ⟨h, rfl⟩⟩
theorem PE.imp {X : Cx} {e : Expr} {t t' : TE} (h : PE X e t) (k : ∀ σ H Q, t' σ H Q → t σ H Q) : PE X e t' := ⟨fun pins s σ H Q I q => h.run pins s σ H Q I (k σ H Q q)⟩
theorem PT.imp {X : Cx} {e : Expr} {t t' : TT} (h : PT X e t) (k : ∀ σ H Q, t' σ H Q → t σ H Q) : PT X e t' := ⟨fun pins s σ H Q I q => h.run pins s σ H Q I (k σ H Q q)⟩
theorem PW.imp {X : Cx} {e : Expr} {t t' : TT} (h : PW X e t) (k : ∀ σ H Q, t' σ H Q → t σ H Q) : PW X e t' := ⟨fun wh pins s σ H Q I q => h.run wh pins s σ H Q I (k σ H Q q)⟩
theorem PA.imp {X : Cx} {es : List Expr} {t t' : TA} (h : PA X es t) (k : ∀ σ H Q, t' σ H Q → t σ H Q) : PA X es t' := ⟨fun pos pins s σ H Q I q => h.run pos pins s σ H Q I (k σ H Q q)⟩
section
variable {ca : Nat → Addr} {K : Frag} {W : WX} {Z Z' : Addr → Prop} {σ : L2.St} {H H' H1 : Hp} {ρ ρ' ρ1 : Rho} {F F' F1 : List Addr} {α β : Type} {m : M} {e : E}
theorem SatR.bind {r : R α} {f : α → Rho → R β} {k : β → Rho → Prop} (h : SatR ca K W Z σ H F (r.bind f) k) : SatR ca K W Z σ H F r fun a ρ1 => SatR ca K W Z σ H F (f a ρ1) k := by
  cases r with
  | ok a ρ1 => exact h
  | exc x ρ1 => exact h
  | bad => exact h
theorem SatR.imp {r : R α} {k k' : α → Rho → Prop} (h : SatR ca K W Z σ H F r k) (g : ∀ a ρ', k a ρ' → k' a ρ') : SatR ca K W Z σ H F r k' := by
  cases r with
  | ok a ρ1 => exact g _ _ h
  | exc x ρ1 => exact h
  | bad => exact h
theorem ExR.le {G G' : Hp} {x : Exc} {cls : Value} {d : Option Addr} (h : ExR ca K G H x cls d) (g : Le G G') : ExR ca K G' H x cls d := by
  obtain ⟨e, dd, ws, e1, e2, e3, r⟩ := h
  exact ⟨e, dd, ws, e1, g _ _ e2, e3, r.le g⟩
/-- another base: a step lies between -/
theorem SatR.rebase {f : List Addr} {pf : Bool} {r : R α} {k k' : α → Rho → Prop} (h : SatR ca K W Z σ H F r k) (x : Ext pf H F H1 (F1 ++ f)) (g : ∀ a ρ', k a ρ' → k' a ρ') : SatR ca K W (zp Z f) σ H1 F1 r k' := by
  cases r with
  | ok a ρ1 => exact g _ _ h
  | exc x' ρ1 =>
    intro cls d H' F' s y q
    have y' : Ext false H1 F1 H' (F' ++ []) := by rw [List.append_nil]; exact y
    refine h cls d H' F' (s.unz fun _ z => .inl z) (((x.trans y').weak fun z => by cases z).mono fun a ha => by simp [ha]) (q.le ?_)
    exact vw_le fun b o e n1 n2 => ⟨e, n1, fun z => n2 (.inl z)⟩
  | bad => exact h
/-- what can be read of a value -/
theorem Air.read {t : T} {v : V} {fp : List Addr} (a : Air K Z σ H ρ F m e t v fp) (s : St K (zp Z fp) σ H ρ F) : ∃ fq, Ow K (vw H F (zp Z fp)) H t v fq := by
  have tmp : Tmp K Z H F t v fp → ∃ fq, Ow K (vw H F (zp Z fp)) H t v fq := fun h => ⟨_, h.2.2⟩
  cases e with
  | var k =>
    unfold Air at a
    simp only at a
    by_cases hm : m = .rd
    · rw [if_pos hm] at a
      obtain ⟨e1, e2, e3⟩ := a
      obtain ⟨v', f, e4, o, _⟩ := s.get e3
      rw [e2] at e4
      cases e4
      exact ⟨f, o⟩
    · rw [if_neg hm] at a
      exact tmp a.1
  | idx x y =>
    unfold Air at a
    simp only at a
    by_cases hm : m = .rd
    · rw [if_pos hm] at a
      obtain ⟨e1, fq, o⟩ := a
      subst e1
      rw [zp_nil]
      exact ⟨fq, o⟩
    · rw [if_neg hm] at a
      exact tmp a
  | _ => exact tmp a
/-- results: a frozen value that is there -/
theorem Post.val {d : D} {v : V} {fp : List Addr} {Q : VK} {pf : Bool} (h : Post K Z σ H F m e (.leaf d) ρ1 Q) (s : St K (zp Z fp) σ H1 ρ1 F1) (x : Ext pf H F H1 (F1 ++ fp)) (hp : pureE e = true → pf = true)
    (r : Rp K (vw H1 F1 Z) d v) (ht : Tmp K Z H1 F1 (.leaf d) v [] → Air K Z σ H1 ρ1 F1 m e (.leaf d) v [] := by exact id) : Q v H1 := by
  refine h v H1 F1 [] (s.unz fun a z => ?_) ((x.weak hp).mono fun a ha => by simp at ha; simp [ha]) (ht (.leaf r))
  rw [zp_nil] at z
  exact .inl z
/-- a new frozen tuple, list -/
theorem Post.tup {ds : List D} {xs : List V} {p : Addr} {fp : List Addr} {Q : VK} {pf : Bool} (h : Post K Z σ H F m e (.leaf (.tuple ds)) ρ1 Q) (s : St K (zp Z fp) σ H1 ρ1 F1) (x : Ext pf H F H1 (F1 ++ fp)) (hp : pureE e = true → pf = true)
    (r : RpL K (vw H1 F1 Z) ds xs) (n : H1 p = none) (ht : Tmp K Z (upd H1 p (.tup xs)) F1 (.leaf (.tuple ds)) (.ref p) [] → Air K Z σ (upd H1 p (.tup xs)) ρ1 F1 m e (.leaf (.tuple ds)) (.ref p) [] := by exact id) : Q (.ref p) (upd H1 p (.tup xs)) := by
  have nF : p ∉ F1 := fun z => by obtain ⟨o, q⟩ := s.alive p z; rw [n] at q; cases q
  have nZ : ¬ Z p := fun z => by obtain ⟨o, q⟩ := s.zt p (.inl z); rw [n] at q; cases q
  have y : Ext true H1 F1 (upd H1 p (.tup xs)) (F1 ++ []) := by rw [List.append_nil]; exact Ext.alloc n
  refine h (.ref p) _ F1 [] ((s.unz fun a z => by rw [zp_nil] at z; exact .inl z).grow (le_alloc n)) (((x.trans y).weak fun z => by simp [hp z]).mono fun a ha => by simp at ha; simp [ha]) (ht (.leaf ⟨p, xs, rfl, .inl (.inl (hid_some.mpr ⟨fun z => z.elim nF nZ, upd_same⟩)), r.le ?_⟩))
  exact vw_le fun b o q n1 n2 => ⟨le_alloc n b o q, n1, n2⟩
/-- a new owned list of things in the air -/
theorem Post.lstO {ts : List T} {xs : List V} {p : Addr} {f g : List Addr} {Q : VK} {pf : Bool} (h : Post K Z σ H F m e (.lst ts) ρ1 Q) (s : St K (zp Z f) σ H1 ρ1 F1) (x : Ext pf H F H1 (F1 ++ f)) (hp : pureE e = true → pf = true)
    (r : OwL K (vw H1 F1 (zp Z g)) H1 ts xs g) (sub : ∀ a ∈ g, a ∈ f) (nd : g.Nodup) (dz : ∀ a ∈ g, ¬ Z a) (n : H1 p = none) (ht : Tmp K Z (upd H1 p (.lst xs)) F1 (.lst ts) (.ref p) (p :: g) → Air K Z σ (upd H1 p (.lst xs)) ρ1 F1 m e (.lst ts) (.ref p) (p :: g) := by exact id) : Q (.ref p) (upd H1 p (.lst xs)) := by
  have al : ∀ a, H1 a = none → a ∉ f := fun a q z => by obtain ⟨o, q'⟩ := s.zt a (.inr z); rw [q] at q'; cases q'
  have nF : p ∉ F1 := fun z => by obtain ⟨o, q⟩ := s.alive p z; rw [n] at q; cases q
  have nZ : ¬ Z p := fun z => by obtain ⟨o, q⟩ := s.zt p (.inl z); rw [n] at q; cases q
  have ng : p ∉ g := fun z => al p n (sub p z)
  have y : Ext true H1 F1 (upd H1 p (.lst xs)) (F1 ++ [p]) := Ext.alloc1 n
  have s1 : St K (zp Z (p :: g)) σ (upd H1 p (.lst xs)) ρ1 F1 := by
    obtain ⟨F0, sl, pm⟩ := s.sl
    refine ⟨⟨F0, sl.le ?_ (fun a ha o q => le_alloc n a o q), pm⟩, s.nd, fun a ha z => ?_, fun a z => ?_⟩
    · refine vw_le fun b o q n1 n2 => ⟨le_alloc n b o q, n1, fun z => ?_⟩
      rcases z with z | z
      · exact n2 (.inl z)
      · rcases List.mem_cons.mp z with z | z
        · subst z; rw [n] at q; cases q
        · exact n2 (.inr (sub b z))
    · rcases z with z | z
      · exact s.dz a ha (.inl z)
      · rcases List.mem_cons.mp z with z | z
        · subst z; exact nF ha
        · exact s.dz a ha (.inr (sub a z))
    · rcases z with z | z
      · obtain ⟨o, q⟩ := s.zt a (.inl z)
        exact ⟨o, le_alloc n a o q⟩
      · rcases List.mem_cons.mp z with z | z
        · subst z; exact ⟨_, upd_same⟩
        · obtain ⟨o, q⟩ := s.zt a (.inr (sub a z))
          exact ⟨o, le_alloc n a o q⟩
  refine h (.ref p) _ F1 (p :: g) s1 (((x.trans y).weak fun z => by simp [hp z]).mono fun a ha => ?_) (ht ⟨List.nodup_cons.mpr ⟨ng, nd⟩, fun a ha => ?_, p, xs, g, rfl, upd_same, rfl, r.le ?_ (fun a ha o q => le_alloc n a o q)⟩)
  · rcases List.mem_append.mp ha with z | z
    · simp [z]
    · rcases List.mem_cons.mp z with z | z
      · simp [z]
      · simp [sub a z]
  · rcases List.mem_cons.mp ha with z | z
    · subst z; exact nZ
    · exact dz a z
  · refine vw_le fun b o q n1 n2 => ⟨le_alloc n b o q, n1, fun z => ?_⟩
    rcases z with z | z
    · exact n2 (.inl z)
    · rcases List.mem_cons.mp z with z | z
      · subst z; rw [n] at q; cases q
      · exact n2 (.inr z)
/-- a new owned list of frozen things -/
theorem Post.lst {ds : List D} {xs : List V} {p : Addr} {fp : List Addr} {Q : VK} {pf : Bool} (h : Post K Z σ H F m e (.lst (ds.map .leaf)) ρ1 Q) (s : St K (zp Z fp) σ H1 ρ1 F1) (x : Ext pf H F H1 (F1 ++ fp)) (hp : pureE e = true → pf = true)
    (r : RpL K (vw H1 F1 Z) ds xs) (n : H1 p = none) (ht : Tmp K Z (upd H1 p (.lst xs)) F1 (.lst (ds.map .leaf)) (.ref p) [p] → Air K Z σ (upd H1 p (.lst xs)) ρ1 F1 m e (.lst (ds.map .leaf)) (.ref p) [p] := by exact id) : Q (.ref p) (upd H1 p (.lst xs)) :=
  h.lstO s x hp (g := []) (by rw [zp_nil]; exact OwL.of_leaves r) (fun _ z => by cases z) List.nodup_nil (fun _ z => by cases z) n ht
/-- less hidden, seen more -/
theorem vw_unz {f : List Addr} : Le (vw H F (zp Z f)) (vw H F Z) := vw_le fun b o e n1 n2 => ⟨e, n1, fun z => n2 (.inl z)⟩
theorem zp_zp {f g : List Addr} : zp (zp Z f) g = zp Z (f ++ g) := by
  funext b
  simp [zp, or_assoc]
variable {φ : Nat → List T → FR} {ea eb : E}
/-- two operands: the left one is read when the right one is known -/
theorem two {γ : Type} {g : T → T → Rho → R γ} {k : γ → Rho → Prop} (s : St K Z σ H ρ F)
    (h : SatR ca K W Z σ H F ((ev φ .rd ea ρ).bind fun t ρ1 => (ev φ .rd eb ρ1).bind fun y ρ2 => match opnd ea t ρ2 (pureE eb) with | some x => g x y ρ2 | none => .bad) k) :
    xE φ ca K W .rd ea σ H fun x H1 => xE φ ca K W .rd eb σ H1 fun y H2 => ∃ F2 f ρ2 t u, St K (zp Z f) σ H2 ρ2 F2 ∧ Ext (pureE ea && pureE eb) H F H2 (F2 ++ f) ∧
      (∃ fq, Ow K (vw H2 F2 (zp Z f)) H2 t x fq) ∧ (∃ fq, Ow K (vw H2 F2 (zp Z f)) H2 u y fq) ∧ SatR ca K W Z σ H F (g t u ρ2) k := by
  refine ⟨Z, ρ, F, s, h.bind.imp fun t ρ1 h1 => ?_⟩
  intro v1 H1 F1 f1 s1 x1 a1
  refine ⟨zp Z f1, ρ1, F1, s1, h1.bind.rebase x1 fun u ρ2 h2 => ?_⟩
  intro v2 H2 F2 f2 s2 x2 a2
  obtain ⟨fq2, o2⟩ := a2.read s2
  have xx := x1.trans x2
  rw [zp_zp] at s2 o2
  have fin : ∀ x, (∃ fq, Ow K (vw H2 F2 (zp Z (f1 ++ f2))) H2 x v1 fq) → opnd ea t ρ2 (pureE eb) = some x → ∃ F2' f ρ2' t' u', St K (zp Z f) σ H2 ρ2' F2' ∧ Ext (pureE ea && pureE eb) H F H2 (F2' ++ f) ∧
      (∃ fq, Ow K (vw H2 F2' (zp Z f)) H2 t' v1 fq) ∧ (∃ fq, Ow K (vw H2 F2' (zp Z f)) H2 u' v2 fq) ∧ SatR ca K W Z σ H F (g t' u' ρ2') k := fun x ox e => by
    rw [e] at h2
    exact ⟨F2, f1 ++ f2, ρ2, x, u, s2, xx, ox, ⟨fq2, o2⟩, h2⟩
  have tmp : Tmp K Z H1 F1 t v1 f1 → ∃ fq, Ow K (vw H2 F2 (zp Z (f1 ++ f2))) H2 t v1 fq := fun q => by
    have o := q.2.2.step s1 x2
    rw [zp_zp] at o
    exact ⟨_, o⟩
  cases q : opnd ea t ρ2 (pureE eb) with
  | none => rw [q] at h2; exact h2.elim
  | some x =>
    refine fin x ?_ q
    cases ea with
    | var k' =>
      obtain ⟨e1, e2, e3⟩ := a1
      obtain ⟨v', f', e4, o, _⟩ := s2.get (show getSlot ρ2 k' = some x from q)
      rw [e2] at e4
      cases e4
      exact ⟨f', o⟩
    | idx y z =>
      obtain ⟨e1, fq, o⟩ := a1
      subst e1

      unfold opnd at q
      simp only at q
      split at q
      · rename_i hc
        cases q
        rcases hc with hc | hc
        · cases t with
          | leaf d =>
            refine ⟨[], ?_⟩
            have := o.1
            rw [List.nil_append]
            exact ⟨this.le x2.view, rfl⟩
          | _ => cases hc
        · rw [List.nil_append]
          exact ⟨fq, o.le x2.view fun a _ u e => x2.pure hc a u e⟩
      · cases q
    | _ =>
      have q' : some t = some x := q
      cases q'
      exact tmp a1
end
end Pz
/-! P2x: rules of the machine that the layer lacks. -/
namespace Pz
open PySem PySem.Spec PyProof.Rows L2
/-! ### a tuple times an int -/
theorem tuple_mul1 (l : Addr) (items : Array Value) (n : Nat) (dd : Option Addr) (sl : Array (Option Value)) (x : Int) (u : Tok) (c0 : (decide (x < -(2 ^ 63)) || decide (x ≥ 2 ^ 63)) = false) (c1 : (items.isEmpty || x == 1) = true) :
    Meets (Builtin.«tuple.__mul__» ⟨[.ref l, .int x u], []⟩) (fun _ R s => s.heap.get? l = some { cls := .type "tuple", dict := dd, data := .seq items n, slots := sl } ∧ R (.ok (.ret (Value.ref l))) s) :=
  .of_wp fun prog w A R s h => by
    obtain ⟨hp, g, d, tk, os⟩ := s
    obtain ⟨hl, h⟩ := h
    have f1 := AutoSeq1.idx_int
    wp_walk using wpAny_loadPart' hl
    repeat (first
      | (refine wpAny_ite_false (decide_eq_false (by rw [c0]; exact Bool.false_ne_true)) ?_; wp_walk using wpAny_loadPart' hl)
      | (refine wpAny_ite_true (decide_eq_true (by rw [c1])) ?_; wp_walk using wpAny_loadPart' hl))
    exact ⟨_, rfl, h⟩
theorem tuple_mul0 (l : Addr) (items : Array Value) (n : Nat) (dd : Option Addr) (sl : Array (Option Value)) (x : Int) (u : Tok) (c0 : (decide (x < -(2 ^ 63)) || decide (x ≥ 2 ^ 63)) = false) (c1 : (items.isEmpty || x == 1) = false) (c2 : (decide (x ≤ 0) || items.isEmpty) = true) :
    Meets (Builtin.«tuple.__mul__» ⟨[.ref l, .int x u], []⟩) (fun _ R s => s.heap.get? l = some { cls := .type "tuple", dict := dd, data := .seq items n, slots := sl } ∧
      R (.ok (.ret (Value.ref s.heap.objs.size))) { s with heap := s.heap.push { cls := Value.type "tuple", data := Data.seq #[] }, toks := s.toks }) :=
  .of_wp fun prog w A R s h => by
    obtain ⟨hp, g, d, tk, os⟩ := s
    obtain ⟨hl, h⟩ := h
    have f1 := AutoSeq1.idx_int
    wp_walk using wpAny_loadPart' hl
    repeat (first
      | (refine wpAny_ite_false (decide_eq_false (by rw [c0]; exact Bool.false_ne_true)) ?_; wp_walk using wpAny_loadPart' hl)
      | (refine wpAny_ite_false (decide_eq_false (by rw [c1]; exact Bool.false_ne_true)) ?_; wp_walk using wpAny_loadPart' hl)
      | (refine wpAny_ite_true (decide_eq_true (by rw [c2])) ?_; wp_walk using wpAny_loadPart' hl))
    exact ⟨_, rfl, h⟩
def rRepA (K : PySem.W.Frag) : R2 := fun x y H Q => ∃ l k xs, x = .ref l ∧ y = .int k ∧ SqT K H l xs ∧ -1000 ≤ k ∧ k ≤ 1000 ∧ xs.length ≤ 1000 ∧
  ((List.replicate k.toNat xs).flatten = xs → Q (.ref l) H) ∧ ∀ p, H p = none → Q (.ref p) (upd H p (.tup (List.replicate k.toNat xs).flatten))
section
variable {X : Cx}
theorem op_repA : OpR X (binaryOp .Mult) (rRepA X.K) := by
  intro pins s σ H x y v u Q I rx ry h
  obtain ⟨l, k, xs, rfl, rfl, hT, h1, h2, hz, q1, q2⟩ := h
  by_cases hk : 2 ≤ k ∧ xs ≠ []
  · exact op_repT pins s σ H _ _ v u Q I rx ry ⟨l, k, xs, rfl, rfl, hT, hk.2, hk.1, h2, hz, q2⟩
  · cases rx
    obtain ⟨t, rfl⟩ := ry
    obtain ⟨its, r, ⟨⟨cls, dd, data, sl⟩, ho, hc, n, hd⟩, hs⟩ := I.tuple hT
    simp only at hc hd
    subst hc hd
    have hle : its.length = xs.length := r.length.symm
    have c0 : (decide (k < -(2 ^ 63)) || decide (k ≥ 2 ^ 63)) = false := by
      rw [decide_eq_false (by omega), decide_eq_false (by omega)] <;> rfl
    have hie : its.toArray.isEmpty = true ↔ xs = [] := by
      cases its with
      | nil => simp at hle; simp [List.eq_nil_of_length_eq_zero hle.symm]
      | cons a b => simp; intro e; subst e; simp at hle
    by_cases c : xs = [] ∨ k = 1
    · have c1 : (its.toArray.isEmpty || k == 1) = true := by
        rcases c with c | c
        · rw [hie.mpr c]; rfl
        · subst c; simp
      refine wpAny_binaryOp_repeat_ref (T := "tuple") (U := "int") (by decide) ⟨_, ho, rfl⟩ (fun s' => typeIs_int s' k t) noFill_tuple_mul F.fills_int_mul F.slot_int_rmul repeat_tuple F.slot_int_index.lookup
        (call_meets F.slot_int_rmul (typeIs_int s k t) F.entry_int_rmul (F.args_int_rmul_2 _ _) (int_rmul_tuple k t l its.toArray n dd sl)
          ⟨ho, rfl, ⟨_, ho, rfl⟩, call_meets F.slot_tuple_mul ⟨_, ho, rfl⟩ F.entry_tuple_mul (F.args_tuple_mul_2 _ _) (tuple_mul1 l its.toArray n dd sl k t c0 c1) ⟨ho, ?_⟩⟩)
      refine ⟨.ref l, H, I, rfl, q1 ?_⟩
      rcases c with c | c
      · subst c
        have : ∀ m : Nat, (List.replicate m ([] : List V)).flatten = [] := fun m => by induction m with
          | zero => rfl
          | succ m ih => rw [List.replicate_succ, List.flatten_cons, ih]; rfl
        exact this _
      · subst c; simp
    · have hx : xs ≠ [] := fun e => c (.inl e)
      have hk1 : k ≠ 1 := fun e => c (.inr e)
      have hk0 : k ≤ 0 := by
        have : ¬ 2 ≤ k := fun z => hk ⟨z, hx⟩
        omega
      have hi : its.toArray.isEmpty = false := by
        cases q : its.toArray.isEmpty with
        | false => rfl
        | true => exact absurd (hie.mp q) hx
      have c1 : (its.toArray.isEmpty || k == 1) = false := by
        rw [hi, Bool.false_or]
        exact beq_eq_false_iff_ne.mpr hk1
      have c2 : (decide (k ≤ 0) || its.toArray.isEmpty) = true := by
        rw [hi, Bool.or_false]
        exact decide_eq_true hk0
      refine wpAny_binaryOp_repeat_ref (T := "tuple") (U := "int") (by decide) ⟨_, ho, rfl⟩ (fun s' => typeIs_int s' k t) noFill_tuple_mul F.fills_int_mul F.slot_int_rmul repeat_tuple F.slot_int_index.lookup
        (call_meets F.slot_int_rmul (typeIs_int s k t) F.entry_int_rmul (F.args_int_rmul_2 _ _) (int_rmul_tuple k t l its.toArray n dd sl)
          ⟨ho, rfl, ⟨_, ho, rfl⟩, call_meets F.slot_tuple_mul ⟨_, ho, rfl⟩ F.entry_tuple_mul (F.args_tuple_mul_2 _ _) (tuple_mul0 l its.toArray n dd sl k t c0 c1 c2) ⟨ho, ?_⟩⟩)
      have e0 : k.toNat = 0 := by omega
      rw [e0] at q2
      refine ⟨.ref s.heap.objs.size, _, I.laid (t' := s.toks) (o := .tup []) (fun b ob q => Heap.get?_push_of_some _ q) (Nat.le_refl _) ?_, rfl, q2 _ (I.hok.fresh (Nat.le_refl _))⟩
      exact ⟨Nat.zero_le _, [], .nil, IsTup.new _ _⟩
/-! ### a text times an int -/
def rRepS : R2 := fun x y H Q => ∃ z k, x = .str z ∧ y = .int k ∧ -1000 ≤ k ∧ k ≤ 1000 ∧ z.length ≤ 1000 ∧ Q (.str ⟨((List.replicate k.toNat z.cps.toList).flatten).toArray⟩) H
theorem rep_cps (z : Str) : ∀ (n : Nat) (acc : List Nat), List.foldl (fun x1 x2 => x1 ++ x2) acc.toArray (List.replicate n z.cps) = (acc ++ (List.replicate n z.cps.toList).flatten).toArray
  | 0, acc => by simp
  | n + 1, acc => by
    have e : acc.toArray ++ z.cps = (acc ++ z.cps.toList).toArray := by
      apply Array.toList_inj.mp
      simp
    rw [List.replicate_succ, List.foldl_cons, e, rep_cps z n, List.replicate_succ, List.flatten_cons, List.append_assoc]
theorem op_repS : OpR X (binaryOp .Mult) rRepS := by
  intro pins s σ H x y v u Q I rx ry h
  obtain ⟨z, k, rfl, rfl, h1, h2, hz, q⟩ := h
  obtain ⟨t, rfl⟩ := rx
  obtain ⟨t', rfl⟩ := ry
  have hm : ¬ k < 1 → z.length * k.toNat ≤ 1000000 := fun _ => by
    have := Nat.mul_le_mul hz (show k.toNat ≤ 1000 by omega)
    omega
  refine PySem.P.mul_str (by rw [decide_eq_false (by omega), decide_eq_false (by omega)] <;> rfl) (fun hk _ => ?_) (fun hk _ => ?_) ?_
  · have e : (2 ^ 63 - 1 : Int) / k ≥ (2 ^ 63 - 1) / 1000 := by
      have a : (0 : Int) < k := by omega
      have b : ((2 ^ 63 - 1 : Int) / 1000) * k ≤ 2 ^ 63 - 1 := by
        have : ((2 ^ 63 - 1 : Int) / 1000) * k ≤ ((2 ^ 63 - 1 : Int) / 1000) * 1000 := Int.mul_le_mul_of_nonneg_left h2 (by decide)
        omega
      exact Int.le_ediv_of_mul_le a b
    have : (z.length : Int) ≤ 1000 := by omega
    omega
  · unfold Builtin.Str.tooLong
    have := hm hk
    first
      | (exact decide_eq_false (by rw [sizeLine_eq]; omega))
      | (exact decide_eq_false (by omega))
      | (simp; omega)
  · by_cases c : k < 1
    · rw [if_pos c]
      have e0 : k.toNat = 0 := by omega
      rw [e0] at q
      exact ⟨by decide, .str _, H, I.tok _, ⟨_, rfl⟩, q⟩
    · rw [if_neg c]
      split
      · rename_i hc
        refine ⟨.str z, H, I, ⟨_, rfl⟩, ?_⟩
        have e : (⟨((List.replicate k.toNat z.cps.toList).flatten).toArray⟩ : Str) = z := by
          simp only [Bool.or_eq_true, beq_iff_eq] at hc
          apply Str.ext'
          apply Array.toList_inj.mp
          rcases hc with hc | hc
          · subst hc; simp
          · have : z.cps.toList = [] := by
              have h0 : z.cps.size = 0 := hc
              exact List.eq_nil_of_length_eq_zero (by simpa using h0)
            rw [this]
            have rr : ∀ m : Nat, (List.replicate m ([] : List Nat)).flatten = [] := fun m => by induction m with
              | zero => rfl
              | succ m ih => rw [List.replicate_succ, List.flatten_cons, ih]; rfl
            rw [rr]
        rw [e] at q
        exact q
      · have e := rep_cps z k.toNat []
        rw [List.nil_append] at e
        rw [e]
        refine ⟨?_, .str _, H, I.tok _, ⟨_, rfl⟩, q⟩
        show (List.replicate k.toNat z.cps.toList).flatten.toArray.size ≤ sizeLine
        rw [List.size_toArray, PyProof.Rows.lm_len_rep_flat, sizeLine_eq]
        have := hm c
        have e2 : z.cps.toList.length = z.length := by simp [Str.length]
        rw [e2, Nat.mul_comm]
        omega
/-! ### x in a tuple, data at any depth -/
def rInT (K : PySem.W.Frag) : R2 := fun x y H Q => ∃ d ds, Dp K H x d ∧ Dp K H y (.tuple ds) ∧ SeqAt.shaped d = true ∧ SeqAt.shaped (.tuple ds) = true ∧ Q (.bl (ds.any fun z => PyData.eqv z d)) H
def rNotInT (K : PySem.W.Frag) : R2 := fun x y H Q => ∃ d ds, Dp K H x d ∧ Dp K H y (.tuple ds) ∧ SeqAt.shaped d = true ∧ SeqAt.shaped (.tuple ds) = true ∧ Q (.bl (!ds.any fun z => PyData.eqv z d)) H
theorem room_tup {A : Around} {d : PyData} {ds : List PyData} (sd : SeqAt.shaped d = true) (hu : A.units + 65 < cLine) : A.units + 1 + min (PyData.depthAll ds) d.depth < cLine := by
  have h1 := SeqAt.depth_of_shaped sd
  have h2 : min (PyData.depthAll ds) d.depth ≤ d.depth := Nat.min_le_right _ _
  omega
theorem op_inT (hu : X.A.units + 65 < cLine) : OpR X (compareOp .In) (rInT X.K) := by
  intro pins s σ H x y v u Q I rx ry h
  obtain ⟨d, ds, hd, he, sd, se, q⟩ := h
  obtain ⟨as, r1⟩ := Dp.reads I d x v hd rx
  obtain ⟨bs, r2⟩ := Dp.reads I (.tuple ds) y u he ry
  exact SeqAt.in_tuple_reads r2 r1 (SeqAt.canLay_of_shaped se) (SeqAt.canLay_of_shaped sd) (room_tup sd hu) ⟨.bl _, H, I, rfl, q⟩
theorem op_notInT (hu : X.A.units + 65 < cLine) : OpR X (compareOp .NotIn) (rNotInT X.K) := by
  intro pins s σ H x y v u Q I rx ry h
  obtain ⟨d, ds, hd, he, sd, se, q⟩ := h
  obtain ⟨as, r1⟩ := Dp.reads I d x v hd rx
  obtain ⟨bs, r2⟩ := Dp.reads I (.tuple ds) y u he ry
  exact SeqAt.notIn_tuple_reads r2 r1 (SeqAt.canLay_of_shaped se) (SeqAt.canLay_of_shaped sd) (room_tup sd hu) ⟨.bl _, H, I, rfl, q⟩
end
end Pz
/-! P2d: expressions, one construct after another. -/
namespace Pz
open PySem PySem.Spec PyProof.Rows L2
section
variable {X : Cx} {φ : Nat → List T → FR} {ca : Nat → Addr} {W : WX} {m : M} {a b : Expr} {ea eb ec : E} {pos : Pos}
theorem fin_ne {r : R T} (hm : m ≠ .cd) : fin m r = r := by cases m <;> first | rfl | exact absurd rfl hm

theorem c_const {e : Expr} {v : V} {d : D} {ee : E} (h : PE X e (tC v)) (hm : m ≠ .cd) (he : ∀ ρ, ev φ m ee ρ = fin m (.ok (.leaf d) ρ)) (hr : ∀ G, Rp X.K G d v) (ht : ∀ Z σ H ρ F t v f, Tmp X.K Z H F t v f → Air X.K Z σ H ρ F m ee t v f) : PE X e (xE φ ca X.K W m ee) := by
  refine PE.imp h fun σ H Q q => ?_
  obtain ⟨Z, ρ, F, s, q⟩ := q
  rw [he, fin_ne hm] at q
  refine q v H F [] (by rw [zp_nil]; exact s) (by rw [List.append_nil]; exact Ext.refl) (ht _ _ _ _ _ _ _ _ (.leaf (hr _)))
theorem c_non {j} (hm : m ≠ .cd) : PE X (.Constant .none j pos) (xE φ ca X.K W m .non) := c_const pe_non hm (fun _ => rfl) (fun _ => rfl) fun _ _ _ _ _ _ _ _ h => h
theorem c_bl {j b} (hm : m ≠ .cd) : PE X (.Constant (.bool b) j pos) (xE φ ca X.K W m (.bl b)) := c_const pe_bl hm (fun _ => rfl) (fun _ => rfl) fun _ _ _ _ _ _ _ _ h => h
theorem c_int {j i} (hm : m ≠ .cd) : PE X (.Constant (.int i) j pos) (xE φ ca X.K W m (.int i)) := c_const pe_int hm (fun _ => rfl) (fun _ => rfl) fun _ _ _ _ _ _ _ _ h => h
theorem c_str {j i} (hm : m ≠ .cd) : PE X (.Constant (.str i) j pos) (xE φ ca X.K W m (.str i)) := c_const pe_str hm (fun _ => rfl) (fun _ => rfl) fun _ _ _ _ _ _ _ _ h => h
theorem c_var {k : Nat} {x : Str} (hm : m ≠ .cd) (hN : X.N[k]? = some x) (hv : Vis X.env.scope x) (hd : (x == ("__debug__" : Str)) = false) (hcd : (x == ("__classdict__" : Str)) = false) : PE X (.Name x pos) (xE φ ca X.K W m (.var k)) := by
  refine PE.imp (pe_var hN hv hd hcd) fun σ H Q q => ?_
  obtain ⟨Z, ρ, F, s, q⟩ := q
  unfold ev at q
  cases e : getSlot ρ k with
  | none => rw [e] at q; exact q.elim
  | some t =>
    rw [e] at q
    simp only at q
    have free : ∀ v f, t.free = true → Ow X.K (vw H F Z) H t v f → f = [] := fun v f hf o => by
      cases t with
      | leaf d => exact o.2
      | rng _ _ => obtain ⟨_, _, _, z⟩ := o; exact z
      | scr _ => obtain ⟨_, _, _, z⟩ := o; exact z
      | _ => cases hf
    have keep : (t.free = true ∨ m ≠ .mv) → Post X.K Z σ H F m (.var k) t ρ Q → ∃ v, σ[k]? = some (some v) ∧ Q v H := fun hf q => by
      obtain ⟨v, f, e1, o, _⟩ := s.get e
      refine ⟨v, e1, q v H F [] (by rw [zp_nil]; exact s) (by rw [List.append_nil]; exact Ext.refl) ?_⟩
      show if m = .rd then _ else _
      by_cases h : m = .rd
      · rw [if_pos h]; exact ⟨rfl, e1, e⟩
      · rw [if_neg h]
        have hf' : t.free = true := hf.elim id fun z => by cases m <;> first | exact absurd rfl z | exact absurd rfl hm | exact absurd rfl h
        have ef := free v f hf' o
        subst ef
        exact ⟨⟨List.nodup_nil, fun _ z => (nomatch z), by rw [zp_nil]; exact o⟩, e1⟩
    by_cases hc : m = .mv ∧ t.free = false
    · rw [if_pos hc] at q
      obtain ⟨v, f, F', e1, o, s', pm, nd, dz⟩ := s.take e
      refine ⟨v, e1, q v H F' f s' ⟨fun _ _ h _ => h, fun a h => .inl (pm.mem_iff.mpr (by rcases List.mem_append.mp h with z | z <;> simp [z])), fun _ => Le.refl _⟩ ?_⟩
      show if m = .rd then _ else _
      rw [if_neg (by rw [hc.1]; intro z; cases z)]
      exact ⟨⟨nd, dz, o⟩, e1⟩
    · rw [if_neg hc, fin_ne hm] at q
      refine keep ?_ q
      by_cases h : m = .mv
      · left
        cases hf : t.free with
        | true => rfl
        | false => exact absurd ⟨h, hf⟩ hc
      · exact .inr h
theorem c_glob {x : Str} {d : D} {u : Value} {v : V} (hm : m ≠ .cd) (hg : Gl X x) (hx : X.mg x = some u) (r : RelV v u) (hr : ∀ G, Rp X.K G d v) (hd : (x == ("__debug__" : Str)) = false) : PE X (.Name x pos) (xE φ ca X.K W m (.glob x d)) :=
  c_const (pe_glob hg hx r hd) hm (fun _ => rfl) hr fun _ _ _ _ _ _ _ _ h => h

/-! ### operators -/
theorem pure2 {h : Bool} {p q : Bool} (e : h = (p && q)) : h = true → (p && q) = true := fun z => by rw [← e]; exact z
theorem R.of_some {α : Type} {o : Option α} {ρ : Rho} {Z σ H F} {k : α → Rho → Prop} (h : SatR ca X.K W Z σ H F (R.of o ρ) k) : ∃ u, o = some u ∧ k u ρ := by
  cases o with
  | none => exact h.elim
  | some u => exact ⟨u, rfl, h⟩
theorem powOk_ok {i j : Int} (h : powOk i j = true) : CPow i j := by
  unfold powOk at h
  simp only [Bool.and_eq_true, decide_eq_true_eq, Nat.ble_eq] at h
  exact ⟨h.1.1, by omega, h.2⟩
theorem op_mulP : OpR X (binaryOp .Mult) (rI (fun i j => mulOk i j = true) fun i j => .int (i * j)) := opI fun i j _ _ _ _ _ hc q => by
  unfold mulOk at hc
  simp only [Bool.or_eq_true, decide_eq_true_eq] at hc
  rcases hc with (hc | hc) | hc
  · exact mul_int q (CMul.ok (.inl ⟨by omega, by omega⟩))
  · exact mul_int q (CMul.ok (.inr ⟨by omega, by omega⟩))
  · exact mul_int q (CMulW.ok hc)
/-- ints by the table of operators -/
theorem opI_ok {op : Op} {o : Operator} (ho : (op, o) ∈ [(Op.add, Operator.Add), (.sub, .Sub), (.mul, .Mult), (.fdiv, .FloorDiv), (.mod, .Mod), (.pow, .Pow), (.shl, .LShift), (.shr, .RShift), (.band, .BitAnd), (.bor, .BitOr), (.bxor, .BitXor)]) :
    OpR X (binaryOp o) fun x y H Q => ∃ i j k, x = .int i ∧ y = .int j ∧ intOp op i j = some k ∧ Q (.int k) H := by
  intro pins s σ H x y v u Q I rx ry h
  obtain ⟨i, j, k, e1, e2, e3, q⟩ := h
  simp only [List.mem_cons, Prod.mk.injEq, List.not_mem_nil, or_false] at ho
  rcases ho with ⟨rfl, rfl⟩ | ⟨rfl, rfl⟩ | ⟨rfl, rfl⟩ | ⟨rfl, rfl⟩ | ⟨rfl, rfl⟩ | ⟨rfl, rfl⟩ | ⟨rfl, rfl⟩ | ⟨rfl, rfl⟩ | ⟨rfl, rfl⟩ | ⟨rfl, rfl⟩ | ⟨rfl, rfl⟩
  · cases e3
    exact op_add pins s σ H x y v u Q I rx ry ⟨i, j, e1, e2, q⟩
  · cases e3
    exact op_sub pins s σ H x y v u Q I rx ry ⟨i, j, e1, e2, q⟩
  · unfold intOp at e3
    simp only at e3
    split at e3
    · rename_i hc
      cases e3
      exact op_mulP pins s σ H x y v u Q I rx ry ⟨i, j, e1, e2, hc, q⟩
    · cases e3
  · unfold intOp at e3
    simp only at e3
    split at e3
    · rename_i hc
      cases e3
      unfold divOk at hc
      simp only [Bool.and_eq_true, Bool.or_eq_true, decide_eq_true_eq, Nat.ble_eq] at hc
      rcases hc.2 with h | h
      · exact op_fdiv pins s σ H x y v u Q I rx ry ⟨i, j, e1, e2, ⟨hc.1, by omega⟩, q⟩
      · exact op_fdivW pins s σ H x y v u Q I rx ry ⟨i, j, e1, e2, ⟨hc.1, h⟩, q⟩
    · cases e3
  · unfold intOp at e3
    simp only at e3
    split at e3
    · rename_i hc
      cases e3
      exact op_mod pins s σ H x y v u Q I rx ry ⟨i, j, e1, e2, hc, q⟩
    · cases e3
  · unfold intOp at e3
    simp only at e3
    split at e3
    · rename_i hc
      cases e3
      exact op_pow pins s σ H x y v u Q I rx ry ⟨i, j, e1, e2, powOk_ok hc, q⟩
    · cases e3
  · unfold intOp at e3
    simp only at e3
    split at e3
    · rename_i hc
      cases e3
      exact op_shl pins s σ H x y v u Q I rx ry ⟨i, j, e1, e2, powOk_ok hc, q⟩
    · cases e3
  · unfold intOp at e3
    simp only at e3
    split at e3
    · rename_i hc
      cases e3
      exact op_shr pins s σ H x y v u Q I rx ry ⟨i, j, e1, e2, hc, q⟩
    · cases e3
  · cases e3
    exact op_and pins s σ H x y v u Q I rx ry ⟨i, j, e1, e2, q⟩
  · cases e3
    exact op_or pins s σ H x y v u Q I rx ry ⟨i, j, e1, e2, q⟩
  · cases e3
    exact op_xor pins s σ H x y v u Q I rx ry ⟨i, j, e1, e2, q⟩
/-- the table of operators -/
def opAst : Op → Operator
  | .add => .Add | .sub => .Sub | .mul => .Mult | .fdiv => .FloorDiv | .mod => .Mod | .pow => .Pow | .shl => .LShift | .shr => .RShift | .band => .BitAnd | .bor => .BitOr | .bxor => .BitXor
theorem opAst_mem (op : Op) : (op, opAst op) ∈ [(Op.add, Operator.Add), (.sub, .Sub), (.mul, .Mult), (.fdiv, .FloorDiv), (.mod, .Mod), (.pow, .Pow), (.shl, .LShift), (.shr, .RShift), (.band, .BitAnd), (.bor, .BitOr), (.bxor, .BitXor)] := by
  cases op <;> simp [opAst]
/-- operators on all data, by one reading -/
def rBin (K : Frag) (op : Op) : R2 := fun x y H Q =>
  (∃ i j k, x = .int i ∧ y = .int j ∧ intOp op i j = some k ∧ Q (.int k) H) ∨
  (op = .add ∧ ((∃ i j, x = .str i ∧ y = .str j ∧ i.length + j.length ≤ sizeLine ∧ Q (.str (i ++ j)) H) ∨ rCatA K x y H Q ∨ rCat x y H Q)) ∨
  (op = .mul ∧ (rRepA K x y H Q ∨ rRepS x y H Q ∨ rRep x y H Q))
theorem op_bin (op : Op) : OpR X (binaryOp (opAst op)) (rBin X.K op) := by
  intro pins s σ H x y v u Q I rx ry h
  rcases h with h | ⟨e, h⟩ | ⟨e, h⟩
  · exact opI_ok (opAst_mem op) pins s σ H x y v u Q I rx ry h
  · subst e
    rcases h with h | h | h
    · exact op_add_str pins s σ H x y v u Q I rx ry h
    · exact op_catA pins s σ H x y v u Q I rx ry h
    · exact op_cat pins s σ H x y v u Q I rx ry h
  · subst e
    rcases h with h | h | h
    · exact op_repA pins s σ H x y v u Q I rx ry h
    · exact op_repS pins s σ H x y v u Q I rx ry h
    · exact op_rep pins s σ H x y v u Q I rx ry h
theorem rep_toNat {α : Type} (xs : List α) (k : Int) : rep xs k = (List.replicate k.toNat xs).flatten := rfl
theorem rep_len {α : Type} (xs : List α) (k : Int) : (rep xs k).length = k.toNat * xs.length := by
  rw [rep_toNat, PyProof.Rows.lm_len_rep_flat]
theorem small_rep {n : Nat} {k : Int} (h : n ≤ 1000) (h2 : k ≤ 1000) : n * k.toNat ≤ sizeLine := by
  have a : n * k.toNat ≤ 1000 * 1000 := Nat.mul_le_mul h (by omega)
  rw [sizeLine_eq]
  omega
/-- what binOp answers is what the machine does -/
theorem bin_ok {Z : Addr → Prop} {σ : L2.St} {H H2 : Hp} {F F2 f : List Addr} {ρ2 : Rho} {op : Op} {t u r : T} {x y : V} {e : E} {Q : VK} {pf : Bool}
    (s : St X.K (zp Z f) σ H2 ρ2 F2) (xx : Ext pf H F H2 (F2 ++ f)) (hp : pureE e = true → pf = true) (ox : ∃ fq, Ow X.K (vw H2 F2 (zp Z f)) H2 t x fq) (oy : ∃ fq, Ow X.K (vw H2 F2 (zp Z f)) H2 u y fq) (hr : binOp op t u = some r)
    (post : Post X.K Z σ H F m e r ρ2 Q) (ht : ∀ Z σ H ρ F t v f, Tmp X.K Z H F t v f → Air X.K Z σ H ρ F m e t v f) : rBin X.K op x y H2 Q := by
  obtain ⟨fx, ox⟩ := ox
  obtain ⟨fy, oy⟩ := oy
  have lists : ∀ {xs ys : List D}, t.flat = some (.list xs) → u.flat = some (.list ys) → op = .add → xs.length + ys.length ≤ sizeLine → r = .lst ((xs ++ ys).map .leaf) → rBin X.K op x y H2 Q := fun {xs ys} e1 e2 e3 e4 e5 => by
    obtain ⟨a1, vs1, ex, ha1, r1⟩ := (ox.flat e1).list hid_le
    obtain ⟨a2, vs2, ey, ha2, r2⟩ := (oy.flat e2).list hid_le
    subst e5
    refine .inr (.inl ⟨e3, .inr (.inr ⟨a1, a2, vs1, vs2, ex, ey, ha1, ha2, by rw [← r1.len, ← r2.len]; exact e4, fun p n => ?_⟩)⟩)
    exact post.lst s xx hp ((r1.append r2).le vw_unz) n (ht _ _ _ _ _ _ _ _)
  have listInt : ∀ {xs : List D} {k : Int}, t.flat = some (.list xs) → u = .leaf (.int k) → op = .mul → xs.length ≤ 1000 → -1000 ≤ k → k ≤ 1000 → r = .lst ((rep xs k).map .leaf) → rBin X.K op x y H2 Q := fun {xs k} e1 e2 e3 e4 e5 e6 e7 => by
    obtain ⟨a1, vs1, ex, ha1, r1⟩ := (ox.flat e1).list hid_le
    subst e2 e7
    have ey : y = .int k := oy.1
    refine .inr (.inr ⟨e3, .inr (.inr ⟨a1, k, vs1, ex, ey, ha1, by omega, by omega, small_rep (by rw [← r1.len]; exact e4) e6, fun p n => ?_⟩)⟩)
    exact post.lst s xx hp ((r1.rep k.toNat).le vw_unz) n (ht _ _ _ _ _ _ _ _)
  unfold binOp at hr
  split at hr
  · -- ints
    rename_i i j
    split at hr
    · rename_i k q
      cases hr
      refine .inl ⟨i, j, k, ox.1, oy.1, q, ?_⟩
      exact post.val s xx hp rfl (ht _ _ _ _ _ _ _ _)
    · cases hr
  · -- texts
    rename_i i j
    split at hr
    · rename_i c
      cases hr
      exact .inr (.inl ⟨c.1, .inl ⟨i, j, ox.1, oy.1, c.2, post.val s xx hp rfl (ht _ _ _ _ _ _ _ _)⟩⟩)
    · cases hr
  · -- tuples
    rename_i xs ys
    split at hr
    · rename_i c
      cases hr
      obtain ⟨a1, vs1, ex, ha1, r1⟩ := ox.1
      obtain ⟨a2, vs2, ey, ha2, r2⟩ := oy.1
      refine .inr (.inl ⟨c.1, .inr (.inl ⟨a1, a2, vs1, vs2, ex, ey, SqT.le hid_le ha1, SqT.le hid_le ha2, by rw [← r1.len, ← r2.len]; exact c.2, fun e0 => ?_, fun _ e0 => ?_, fun _ _ p n => ?_⟩)⟩)
      · have : xs = [] := List.eq_nil_of_length_eq_zero (by rw [r1.len, e0]; rfl)
        subst this
        exact post.val s xx hp ⟨a2, vs2, rfl, SqT.le vw_unz ha2, r2.le vw_unz⟩ (ht _ _ _ _ _ _ _ _)
      · have : ys = [] := List.eq_nil_of_length_eq_zero (by rw [r2.len, e0]; rfl)
        subst this
        rw [List.append_nil] at post
        exact post.val s xx hp ⟨a1, vs1, rfl, SqT.le vw_unz ha1, r1.le vw_unz⟩ (ht _ _ _ _ _ _ _ _)
      · exact post.tup s xx hp ((r1.append r2).le vw_unz) n (ht _ _ _ _ _ _ _ _)
    · cases hr
  · -- tuple times int
    rename_i xs k
    split at hr
    · rename_i c
      cases hr
      obtain ⟨a1, vs1, ex, ha1, r1⟩ := ox.1
      refine .inr (.inr ⟨c.1, .inl ⟨a1, k, vs1, ex, oy.1, SqT.le hid_le ha1, c.2.2.1, c.2.2.2, by rw [← r1.len]; exact c.2.1, fun e0 => ?_, fun p n => ?_⟩⟩)
      · have rr := r1.rep k.toNat
        rw [e0] at rr
        exact post.val s xx hp ⟨a1, vs1, rfl, SqT.le vw_unz ha1, rr.le vw_unz⟩ (ht _ _ _ _ _ _ _ _)
      · exact post.tup s xx hp ((r1.rep k.toNat).le vw_unz) n (ht _ _ _ _ _ _ _ _)
    · cases hr
  · -- text times int
    rename_i z k
    split at hr
    · rename_i c
      cases hr
      refine .inr (.inr ⟨c.1, .inr (.inl ⟨z, k, ox.1, oy.1, c.2.2.1, c.2.2.2, c.2.1, ?_⟩)⟩)
      exact post.val s xx hp rfl (ht _ _ _ _ _ _ _ _)
    · cases hr
  · -- list times int
    split at hr
    · rename_i xs q
      split at hr
      · rename_i c
        cases hr
        exact listInt q rfl c.1 c.2.1 c.2.2.1 c.2.2.2 rfl
      · cases hr
    · cases hr
  · -- lists
    split at hr
    · rename_i xs ys q1 q2
      split at hr
      · rename_i c
        cases hr
        exact lists q1 q2 c.1 c.2 rfl
      · cases hr
    · cases hr
theorem c_bin {op : Op} (ha : PE X a (xE φ ca X.K W .rd ea)) (hb : PE X b (xE φ ca X.K W .rd eb)) (hm : m ≠ .cd) : PE X (.BinOp a (opAst op) b pos) (xE φ ca X.K W m (.bin op ea eb)) := by
  refine PE.imp (pe_op (op_bin op) ha hb) fun σ H Q q => ?_
  obtain ⟨Z, ρ, F, s, q⟩ := q
  unfold ev at q
  rw [fin_ne hm] at q
  obtain ⟨Z1, ρ1, F1, s1, q1⟩ := two s q
  refine ⟨Z1, ρ1, F1, s1, q1.imp fun t ρ' h => fun v H' F' fp s' x' a' => ?_⟩
  obtain ⟨Z2, ρ2, F2, s2, q2⟩ := h v H' F' fp s' x' a'
  refine ⟨Z2, ρ2, F2, s2, q2.imp fun u ρ3 h => fun w H3 F3 fp3 s3 x3 a3 => ?_⟩
  obtain ⟨F4, f, ρ4, t, u', s4, x4, ox, oy, q4⟩ := h w H3 F3 fp3 s3 x3 a3
  obtain ⟨r, hr, post⟩ := R.of_some q4
  exact bin_ok (e := .bin op ea eb) s4 x4 (fun z => z) ox oy hr post fun _ _ _ _ _ _ _ _ h => h
/-! ### arguments -/
theorem c_nil : PA X [] (xA φ ca X.K W .nil) := by
  refine PA.imp pa_nil fun σ H Q q => ?_
  obtain ⟨Z, ρ, F, s, q⟩ := q
  exact q [] H F [] (by rw [zp_nil]; exact s) (by rw [List.append_nil]; exact Ext.refl) ⟨List.nodup_nil, fun _ z => (nomatch z), rfl, rfl⟩ trivial
/-- a tree and more trees in the air -/
theorem TmpL.cons {K : Frag} {Z : Addr → Prop} {H : Hp} {F : List Addr} {t : T} {ts : List T} {v : V} {vs : List V} {f g : List Addr} (o : Ow K (vw H F (zp (zp Z f) g)) H t v f) (nf : f.Nodup) (dz : ∀ a ∈ f, ¬ Z a) (h : TmpL K (zp Z f) H F ts vs g) : TmpL K Z H F (t :: ts) (v :: vs) (f ++ g) := by
  obtain ⟨ng, dg, os⟩ := h
  rw [zp_zp] at o os
  refine ⟨List.nodup_append.mpr ⟨nf, ng, fun a ha b hb z => ?_⟩, fun a ha z => ?_, v, vs, f, g, rfl, rfl, o, os⟩
  · subst z
    exact dg a hb (.inr ha)
  · rcases List.mem_append.mp ha with h | h
    · exact dz a h z
    · exact dg a h (.inl z)
/-- in mode mv a value is in the air -/
theorem Air.mv {K : Frag} {Z : Addr → Prop} {σ : L2.St} {H : Hp} {ρ : Rho} {F : List Addr} {e : E} {t : T} {v : V} {fp : List Addr} (a : Air K Z σ H ρ F .mv e t v fp) : Tmp K Z H F t v fp := by
  cases e <;> first | exact a | exact a.1
theorem Air.arg {K : Frag} {Z : Addr → Prop} {σ : L2.St} {H : Hp} {ρ : Rho} {F : List Addr} {e : E} {t : T} {v : V} {fp : List Addr} {es : Es} {vs : List V} (a : Air K Z σ H ρ F .mv e t v fp) (h : ArgV σ es vs) : ArgV σ (.cons e es) (v :: vs) := by
  cases e <;> first | exact h | exact ⟨a.2, h⟩
/-- one more operand: a variable's tree is taken when the others are there -/
theorem cons_core {ee : E} {ees : Es} {Z : Addr → Prop} {σ : L2.St} {H : Hp} {ρ : Rho} {F : List Addr} {k : List T → Rho → Prop} (s : St X.K Z σ H ρ F) (q : SatR ca X.K W Z σ H F (evEs φ (.cons ee ees) ρ) k) :
    xE φ ca X.K W .mv ee σ H fun v1 H1 => ∃ Z1 ρ1 F1, St X.K Z1 σ H1 ρ1 F1 ∧ SatR ca X.K W Z1 σ H1 F1 (evEs φ ees ρ1) fun ts ρ2 => ∀ vs H2 F2 f2, St X.K (zp Z1 f2) σ H2 ρ2 F2 → Ext (pureEs ees) H1 F1 H2 (F2 ++ f2) → TmpL X.K Z1 H2 F2 ts vs f2 →
      ∃ t ρ3 F3 f3, k (t :: ts) ρ3 ∧ St X.K (zp Z f3) σ H2 ρ3 F3 ∧ Ext (pureEs (.cons ee ees)) H F H2 (F3 ++ f3) ∧ TmpL X.K Z H2 F3 (t :: ts) (v1 :: vs) f3 ∧ (ArgV σ ees vs → ArgV σ (.cons ee ees) (v1 :: vs)) := by
  have old : SatR ca X.K W Z σ H F ((ev φ .mv ee ρ).bind fun t ρ1 => (evEs φ ees ρ1).bind fun ts ρ2 => .ok (t :: ts) ρ2) k → xE φ ca X.K W .mv ee σ H fun v1 H1 => ∃ Z1 ρ1 F1, St X.K Z1 σ H1 ρ1 F1 ∧ SatR ca X.K W Z1 σ H1 F1 (evEs φ ees ρ1) fun ts ρ2 => ∀ vs H2 F2 f2, St X.K (zp Z1 f2) σ H2 ρ2 F2 → Ext (pureEs ees) H1 F1 H2 (F2 ++ f2) → TmpL X.K Z1 H2 F2 ts vs f2 →
      ∃ t ρ3 F3 f3, k (t :: ts) ρ3 ∧ St X.K (zp Z f3) σ H2 ρ3 F3 ∧ Ext (pureEs (.cons ee ees)) H F H2 (F3 ++ f3) ∧ TmpL X.K Z H2 F3 (t :: ts) (v1 :: vs) f3 ∧ (ArgV σ ees vs → ArgV σ (.cons ee ees) (v1 :: vs)) := fun q => by
    refine ⟨Z, ρ, F, s, q.bind.imp fun t ρ1 h1 => fun v1 H1 F1 f1 s1 x1 a1 => ?_⟩
    refine ⟨zp Z f1, ρ1, F1, s1, h1.bind.rebase x1 fun ts ρ2 h2 => fun vs H2 F2 f2 s2 x2 a2 => ?_⟩
    obtain ⟨n1, d1, o1⟩ := a1.mv
    have xx := x1.trans x2
    rw [zp_zp] at s2
    exact ⟨t, ρ2, F2, f1 ++ f2, h2, s2, xx, .cons (o1.step s1 x2) n1 d1 a2, fun g => a1.arg g⟩
  cases ee with
  | var j =>
    unfold evEs at q
    split at q
    · rename_i hs
      obtain ⟨t0, e0⟩ := Option.isSome_iff_exists.mp hs
      -- what stands there is seen first
      have see : ∃ v0, σ[j]? = some (some v0) := by
        obtain ⟨v, f, e1, _⟩ := s.get e0
        exact ⟨v, e1⟩
      obtain ⟨v0, ev0⟩ := see
      refine ⟨Z, ρ, F, s, ?_⟩
      have first : ∀ (v1 : V) (H1 : Hp) (F1 f1 : List Addr) (ρ1 : Rho), ρ1 = ρ ∨ ρ1 = ρ.set j none → (t0.free = false → ρ1 = ρ.set j none) → (t0.free = true → ρ1 = ρ) → St X.K (zp Z f1) σ H1 ρ1 F1 → Ext (pureE (.var j)) H F H1 (F1 ++ f1) → Air X.K Z σ H1 ρ1 F1 .mv (.var j) t0 v1 f1 →
          ∃ Z1 ρ1 F1, St X.K Z1 σ H1 ρ1 F1 ∧ SatR ca X.K W Z1 σ H1 F1 (evEs φ ees ρ1) fun ts ρ2 => ∀ vs H2 F2 f2, St X.K (zp Z1 f2) σ H2 ρ2 F2 → Ext (pureEs ees) H1 F1 H2 (F2 ++ f2) → TmpL X.K Z1 H2 F2 ts vs f2 →
      ∃ t ρ3 F3 f3, k (t :: ts) ρ3 ∧ St X.K (zp Z f3) σ H2 ρ3 F3 ∧ Ext (pureEs (.cons (.var j) ees)) H F H2 (F3 ++ f3) ∧ TmpL X.K Z H2 F3 (t :: ts) (v1 :: vs) f3 ∧ (ArgV σ ees vs → ArgV σ (.cons (.var j) ees) (v1 :: vs)) := fun v1 H1 F1 f1 ρ1 hρ hnf hfr s1 x1 a1 => by
        have av : σ[j]? = some (some v1) := a1.2
        obtain ⟨n1, d1, o1⟩ := a1.mv
        -- it is put back
        have sB : ∃ FB, St X.K Z σ H1 ρ FB ∧ Ext true H F H1 (FB ++ []) := by
          cases hf : t0.free with
          | true =>
            have e2 := hfr hf
            subst e2
            exact ⟨F1, s1.unz fun _ z => .inl z, (x1.mono fun a ha => by simp at ha; simp [ha]).weak fun _ => rfl⟩
          | false =>
            have e2 := hnf hf
            subst e2
            have hj : j < ρ.length := by
              rw [getSlot_iff] at e0
              exact (List.getElem?_eq_some_iff.mp e0).1
            have := s1.put (t := t0) (List.getElem?_set_self hj) av o1 n1 d1
            rw [List.set_set, show ρ.set j (some t0) = ρ from by
              apply List.ext_getElem?
              intro i
              rw [List.getElem?_set]
              by_cases hi : j = i
              · subst hi
                rw [if_pos rfl, if_pos hj]
                exact (getSlot_iff.mp e0).symm
              · rw [if_neg hi]] at this
            exact ⟨f1 ++ F1, this, (x1.mono fun a ha => by simp at ha ⊢; rcases ha with z | z <;> simp [z]).weak fun _ => rfl⟩
        obtain ⟨FB, sB, xB⟩ := sB
        refine ⟨zp Z [], ρ, FB, by rw [zp_nil]; exact sB, q.bind.rebase xB fun ts ρ2 h2 => fun vs H2 F2 f2 s2 x2 a2 => ?_⟩
        rw [zp_nil] at s2 a2
        have h3 := h2.bind
        unfold ev at h3
        cases e2 : getSlot ρ2 j with
        | none => rw [e2] at h3; exact h3.elim
        | some t2 =>
          rw [e2] at h3
          simp only [true_and] at h3
          have xx := xB.trans x2
          by_cases hc : t2.free = false
          · rw [if_pos hc] at h3
            obtain ⟨v, f, F', e1, o, s', pm, nd, dz⟩ := s2.take e2
            rw [av] at e1
            cases e1
            have hz : zp (zp Z f2) f = zp (zp Z f) f2 := by
              funext b
              refine propext ⟨fun h => ?_, fun h => ?_⟩ <;> (rcases h with (h | h) | h <;> simp [zp, h])
            rw [hz] at s' o
            refine ⟨t2, ρ2.set j none, F', f ++ f2, h3, by rw [zp_zp] at s'; exact s', ?_, .cons o nd (fun a ha z => dz a ha (.inl z)) ⟨a2.1, fun a ha z => ?_, OwL.le ?_ (fun _ _ _ q => q) a2.2.2⟩, fun g => ⟨av, g⟩⟩
            · refine (xx.mono fun a ha => ?_).weak ?_
              · have this : a ∈ f ∨ a ∈ F' → a ∈ F2 := fun h => pm.mem_iff.mpr (List.mem_append.mpr h)
                rcases List.mem_append.mp ha with z | z
                · simp [this (.inr z)]
                · rcases List.mem_append.mp z with z | z
                  · simp [this (.inl z)]
                  · simp [z]
              · intro z
                simp only [pureEs, pureE, Bool.true_and] at z ⊢
                exact z
            · rcases z with z | z
              · exact a2.2.1 a ha z
              · exact s2.dz a (pm.mem_iff.mpr (by simp [z])) (.inr ha)
            · refine vw_le fun b o e n1 n2 => ⟨e, fun z => n1 (pm.mem_iff.mpr (by simp [z])), fun z => ?_⟩
              rcases z with (z | z) | z
              · exact n2 (.inl z)
              · exact n1 (pm.mem_iff.mpr (by simp [z]))
              · exact n2 (.inr z)
          · rw [if_neg hc, fin_ne (by decide)] at h3
            have hf : t2.free = true := by
              cases h : t2.free with
              | true => rfl
              | false => exact absurd h hc
            obtain ⟨v, f, e1, o, _⟩ := s2.get e2
            rw [av] at e1
            cases e1
            have ef : f = [] := by
              cases t2 with
              | leaf d => exact o.2
              | rng _ _ => obtain ⟨_, _, _, z⟩ := o; exact z
              | scr _ => obtain ⟨_, _, _, z⟩ := o; exact z
              | _ => cases hf
            subst ef
            refine ⟨t2, ρ2, F2, [] ++ f2, h3, by rw [List.nil_append]; exact s2, ?_, .cons (by rw [zp_nil]; exact o) List.nodup_nil (fun _ z => by cases z) (by rw [zp_nil]; exact a2), fun g => ⟨av, g⟩⟩
            refine (xx.mono fun a ha => by simpa using ha).weak fun z => ?_
            simpa [pureEs, pureE] using z
      unfold ev
      rw [e0]
      simp only [true_and]
      by_cases hc : t0.free = false
      · rw [if_pos hc]
        exact fun v1 H1 F1 f1 s1 x1 a1 => first v1 H1 F1 f1 _ (.inr rfl) (fun _ => rfl) (fun z => by rw [hc] at z; cases z) s1 x1 a1
      · rw [if_neg hc, fin_ne (by decide)]
        exact fun v1 H1 F1 f1 s1 x1 a1 => first v1 H1 F1 f1 _ (.inl rfl) (fun z => absurd z hc) (fun _ => rfl) s1 x1 a1
    · exact q.elim
  | _ => exact old (by unfold evEs at q; exact q)
theorem c_cons {e : Expr} {es : List Expr} {ee : E} {ees : Es} (he : PE X e (xE φ ca X.K W .mv ee)) (hes : PA X es (xA φ ca X.K W ees)) (hs : starEach (e :: es) X.env = (false, eval e X.env) :: starEach es X.env) : PA X (e :: es) (xA φ ca X.K W (.cons ee ees)) := by
  refine PA.imp (pa_cons he hes hs) fun σ H Q q => ?_
  obtain ⟨Z, ρ, F, s, q⟩ := q
  obtain ⟨Z0, ρ0, F0, s0, q0⟩ := cons_core s q
  refine ⟨Z0, ρ0, F0, s0, q0.imp fun t ρ1 h1 => fun v1 H1 F1 f1 s1 x1 a1 => ?_⟩
  obtain ⟨Z2, ρ2, F2, s2, q2⟩ := h1 v1 H1 F1 f1 s1 x1 a1
  refine ⟨Z2, ρ2, F2, s2, q2.imp fun ts ρ3 h3 => fun vs H3 F3 f3 s3 x3 a3 g3 => ?_⟩
  obtain ⟨t, ρ4, F4, f4, k4, s4, x4, a4, g4⟩ := h3 vs H3 F3 f3 s3 x3 a3
  exact k4 (v1 :: vs) H3 F4 f4 s4 x4 a4 (g4 g3)
theorem OwL.leavesV {K : Frag} {G H : Hp} {ts : List T} {vs : List V} {f : List Addr} {ds : List D} (h : OwL K G H ts vs f) (e : leaves ts = some ds) : RpL K G ds vs := (h.leaves_of e).1
theorem c_tup {es : List Expr} {ees : Es} {k : Nat} (h : PA X es (xA φ ca X.K W ees)) (hm : m ≠ .cd) : PE X (.Tuple es k pos) (xE φ ca X.K W m (.tup ees)) := by
  refine PE.imp (pe_tup h) fun σ H Q q => ?_
  obtain ⟨Z, ρ, F, s, q⟩ := q
  unfold ev at q
  rw [fin_ne hm] at q
  refine ⟨Z, ρ, F, s, q.bind.imp fun ts ρ1 h1 => fun vs H1 F1 f1 s1 x1 a1 _ => ?_⟩
  cases e : leaves ts with
  | none => rw [e] at h1; exact h1.elim
  | some ds =>
    rw [e] at h1
    simp only at h1
    split at h1
    · rename_i hl
      have r := a1.2.2.leavesV e
      refine ⟨by rw [← r.len]; exact hl, fun p n => ?_⟩
      exact Post.tup (e := .tup ees) h1 s1 x1 (fun z => z) (r.le vw_unz) n
    · exact h1.elim
theorem c_lst {es : List Expr} {ees : Es} (h : PA X es (xA φ ca X.K W ees)) (hm : m ≠ .cd) : PE X (.List es pos) (xE φ ca X.K W m (.lst ees)) := by
  refine PE.imp (pe_lst h) fun σ H Q q => ?_
  obtain ⟨Z, ρ, F, s, q⟩ := q
  unfold ev at q
  rw [fin_ne hm] at q
  refine ⟨Z, ρ, F, s, q.bind.imp fun ts ρ1 h1 => fun vs H1 F1 f1 s1 x1 a1 _ => ?_⟩
  split at h1
  · rename_i hl
    refine ⟨by rw [← a1.2.2.len]; exact hl, fun p n => ?_⟩
    exact Post.lstO (e := .lst ees) h1 s1 x1 (fun z => by cases z) a1.2.2 (fun _ z => z) a1.1 a1.2.1 n
  · exact h1.elim
theorem c_neg (ha : PE X a (xE φ ca X.K W .rd ea)) (hm : m ≠ .cd) : PE X (.UnaryOp .USub a pos) (xE φ ca X.K W m (.neg ea)) := by
  refine PE.imp (pe_un un_neg ha) fun σ H Q q => ?_
  obtain ⟨Z, ρ, F, s, q⟩ := q
  unfold ev at q
  rw [fin_ne hm] at q
  refine ⟨Z, ρ, F, s, q.bind.imp fun t ρ1 h1 => fun v H1 F1 f1 s1 x1 a1 => ?_⟩
  obtain ⟨fq, o⟩ := a1.read s1
  split at h1
  · rename_i i
    exact ⟨i, o.1, Post.val (e := .neg ea) h1 s1 x1 (fun z => z) rfl⟩
  · exact h1.elim
/-- what is evaluated to be frozen -/
theorem c_frz {e : Expr} (ha : PE X e (xE φ ca X.K W .mv ea)) (hm : m ≠ .cd) : PE X e (xE φ ca X.K W m (.frz ea)) := by
  refine PE.imp ha fun σ H Q q => ?_
  obtain ⟨Z, ρ, F, s, q⟩ := q
  unfold ev at q
  rw [fin_ne hm] at q
  refine ⟨Z, ρ, F, s, q.bind.imp fun t ρ1 h1 => fun v H1 F1 f1 s1 x1 a1 => ?_⟩
  obtain ⟨n1, d1, o1⟩ := a1.mv
  cases e : t.toD with
  | none => rw [e] at h1; exact h1.elim
  | some d =>
    rw [e] at h1
    refine Post.val (e := .frz ea) h1 s1 x1 (fun z => by cases z) (o1.toD vw_unz (fun a ha o q => hid_some.mpr ⟨fun z => ?_, q⟩) e)
    exact z.elim (fun z => s1.dz a z (.inr ha)) (d1 a ha)
end
end Pz
/-! P2e: comparisons, tests, subscripts, calls of built-ins. -/
namespace Pz
open PySem PySem.Spec PyProof.Rows L2
section
variable {X : Cx} {φ : Nat → List T → FR} {ca : Nat → Addr} {W : WX} {m : M} {a b c : Expr} {ea eb ec : E} {pos : Pos}
def cmAst : Cm → CmpOp
  | .eq => .Eq | .ne => .NotEq | .lt => .Lt | .le => .LtE | .gt => .Gt | .ge => .GtE | .isin => .In | .notin => .NotIn | .is => .Is | .isnot => .IsNot
/-- what a comparison of two things that can be read answers -/
def rCmp (K : Frag) (c : Cm) : R2 := fun x y H Q => ∃ G t u k, Le G H ∧ (∃ fq, Ow K G H t x fq) ∧ (∃ fq, Ow K G H u y fq) ∧ cmpOp c t u = some k ∧ Q (.bl k) H
theorem key_of {G : Hp} {d : D} {k : Key} {v : V} (e : keyOf d = some k) (r : Rp X.K G d v) : v = kV k := by
  cases d with
  | int i => cases e; exact r
  | str i => cases e; exact r
  | _ => cases e
theorem rp_non {G : Hp} {d : D} {x : V} (h : d = .none → False) (r : Rp X.K G d x) : x ≠ .non := by
  intro z
  subst z
  cases d with
  | none => exact h rfl
  | bool _ => exact nomatch (show V.non = V.bl _ from r)
  | int _ => exact nomatch (show V.non = V.int _ from r)
  | str _ => exact nomatch (show V.non = V.str _ from r)
  | list _ => obtain ⟨_, _, z, _⟩ := r; cases z
  | tuple _ => obtain ⟨_, _, z, _⟩ := r; cases z
  | dict _ => exact r.elim
theorem inD_ok (hu : X.A.units + 65 < cLine) {G H : Hp} {d : D} {u : T} {k : Bool} {x y : V} (g : Le G H) (rx : Rp X.K G d x) (oy : ∃ fq, Ow X.K G H u y fq) (e : inD d u = some k) :
    (∃ (c : Nat) (z : Str), x = .str ⟨#[c]⟩ ∧ y = .str z ∧ k = decide (c ∈ z.cps.toList)) ∨
    (∃ d ds, Dp X.K H x d ∧ Dp X.K H y (.tuple ds) ∧ SeqAt.shaped d = true ∧ SeqAt.shaped (.tuple ds) = true ∧ k = ds.any fun z => PyData.eqv z d) ∨
    (∃ d ds, Dp X.K H x d ∧ Dp X.K H y (.list ds) ∧ SeqAt.shaped d = true ∧ SeqAt.shaped (.list ds) = true ∧ k = ds.any fun z => PyData.eqv z d) ∨
    (∃ p o, y = .ref p ∧ DGet H p x o ∧ k = o.isSome) := by
  obtain ⟨fq, oy⟩ := oy
  have lists : ∀ t : T, (∃ fq, Ow X.K G H t y fq) → (match t.flat with
    | some (.list ds) => if SeqAt.shaped d = true ∧ SeqAt.shaped (.list ds) = true then some (ds.any fun z => PyData.eqv z d) else none
    | _ => none) = some k → ∃ d ds, Dp X.K H x d ∧ Dp X.K H y (.list ds) ∧ SeqAt.shaped d = true ∧ SeqAt.shaped (.list ds) = true ∧ k = ds.any fun z => PyData.eqv z d := fun t ⟨f, o⟩ e => by
    split at e
    · rename_i ds q
      split at e
      · rename_i hc
        cases e
        exact ⟨d, ds, (rx.le g).dp, (o.flat q).dp g, hc.1, hc.2, rfl⟩
      · cases e
    · cases e
  unfold inD at e
  split at e
  · rename_i z
    split at e
    · rename_i z' x'
      split at e
      · rename_i hl
        cases e
        refine .inl ⟨x'.cps.getD 0 0, z, ?_, oy.1, rfl⟩
        have hs : x'.cps.size = 1 := hl
        have e1 : x = V.str x' := rx
        rw [e1]
        congr 1
        apply Str.ext'
        apply Array.ext
        · simp [hs]
        · intro i h1 h2
          have : i = 0 := by omega
          subst this
          simp [Array.getD, hs]
      · cases e
    · cases e
  · rename_i ds
    split at e
    · rename_i hc
      cases e
      exact .inr (.inl ⟨d, ds, (rx.le g).dp, (Rp.le g oy.1).dp, hc.1, hc.2, rfl⟩)
    · cases e
  · rename_i kvs
    split at e
    · rename_i k' q
      cases e
      obtain ⟨p, ws, f, e1, hp, ef, nd, r⟩ := oy
      have ek := key_of (X := X) q rx
      subst ek
      refine .inr (.inr (.inr ⟨p, valV ws k', e1, DGet.k hp, ?_⟩))
      cases q2 : getK kvs k' with
      | none => rw [r.none q2]; rfl
      | some t =>
        obtain ⟨v, f', e2, _, _⟩ := r.get q2
        rw [e2]; rfl
    · cases e
  · exact .inr (.inr (.inl (lists _ ⟨fq, oy⟩ e)))
theorem op_cmp (hu : X.A.units + 65 < cLine) (c : Cm) : OpR X (compareOp (cmAst c)) (rCmp X.K c) := by
  intro pins s σ H x y v u Q I rx ry h
  obtain ⟨G, t, w', k, g, ⟨fx, ox⟩, ⟨fy, oy⟩, e, q⟩ := h
  have ord : ∀ (op : CmpOp) (p : Int → Int → Bool), OpR X (compareOp op) (rI0 fun i j => .bl (p i j)) → (∀ i j, ordD c (.leaf (.int i)) (.leaf (.int j)) = some (p i j)) → ordD c t w' = some k →
      wpAny (model X.prog X.w) X.A (compareOp op v u) (EP X pins σ Q) X.xe s := fun op p rule hp e => by
    have : ∃ i j, t = .leaf (.int i) ∧ w' = .leaf (.int j) := by
      unfold ordD at e
      split at e
      · exact ⟨_, _, rfl, rfl⟩
      · cases e
    obtain ⟨i, j, e1, e2⟩ := this
    subst e1 e2
    rw [hp] at e
    cases e
    exact rule pins s σ H x y v u Q I rx ry ⟨i, j, ox.1, oy.1, q⟩
  cases c with
  | lt => exact ord .Lt _ op_lt (fun _ _ => rfl) e
  | le => exact ord .LtE _ op_le (fun _ _ => rfl) e
  | gt => exact ord .Gt _ op_gt (fun _ _ => rfl) e
  | ge => exact ord .GtE _ op_ge (fun _ _ => rfl) e
  | eq =>
    unfold cmpOp at e
    simp only at e
    split at e
    · rename_i d1 d2 q1 q2
      unfold eqD at e
      split at e
      · rename_i hc
        cases e
        exact op_eqD (by omega) pins s σ H x y v u Q I rx ry ⟨d1, d2, (ox.flat q1).dp g, (oy.flat q2).dp g, hc.1, hc.2, q⟩
      · cases e
    · cases e
  | ne =>
    unfold cmpOp at e
    simp only at e
    split at e
    · rename_i d1 d2 q1 q2
      unfold eqD at e
      by_cases hc : SeqAt.shaped d1 = true ∧ SeqAt.shaped d2 = true
      · rw [if_pos hc] at e
        cases e
        exact op_neD (by omega) pins s σ H x y v u Q I rx ry ⟨d1, d2, (ox.flat q1).dp g, (oy.flat q2).dp g, hc.1, hc.2, q⟩
      · rw [if_neg hc] at e
        cases e
    · cases e
  | isin =>
    unfold cmpOp at e
    simp only at e
    split at e
    · rename_i d
      rcases inD_ok hu g ox.1 ⟨fy, oy⟩ e with ⟨c, z, e1, e2, e3⟩ | ⟨d, ds, h1, h2, h3, h4, e3⟩ | ⟨d, ds, h1, h2, h3, h4, e3⟩ | ⟨p, o, e1, h1, e3⟩
      · subst e3
        exact op_in_sign pins s σ H x y v u Q I rx ry ⟨c, z, e1, e2, q⟩
      · subst e3
        exact op_inT hu pins s σ H x y v u Q I rx ry ⟨d, ds, h1, h2, h3, h4, q⟩
      · subst e3
        exact op_inD hu pins s σ H x y v u Q I rx ry ⟨d, ds, h1, h2, h3, h4, q⟩
      · subst e1 e3
        cases ry
        exact d_in (by omega) I h1 rx fun s3 I3 => ⟨.bl o.isSome, H, I3, rfl, q⟩
    · cases e
  | notin =>
    unfold cmpOp at e
    simp only at e
    split at e
    · rename_i d
      split at e
      · rename_i k' q'
        cases e
        rcases inD_ok hu g ox.1 ⟨fy, oy⟩ q' with ⟨c, z, e1, e2, e3⟩ | ⟨d, ds, h1, h2, h3, h4, e3⟩ | ⟨d, ds, h1, h2, h3, h4, e3⟩ | ⟨p, o, e1, h1, e3⟩
        · subst e3
          exact op_notIn_sign pins s σ H x y v u Q I rx ry ⟨c, z, e1, e2, q⟩
        · subst e3
          exact op_notInT hu pins s σ H x y v u Q I rx ry ⟨d, ds, h1, h2, h3, h4, q⟩
        · subst e3
          exact op_notInD hu pins s σ H x y v u Q I rx ry ⟨d, ds, h1, h2, h3, h4, q⟩
        · subst e1 e3
          cases ry
          exact d_notIn (by omega) I h1 rx fun s3 I3 => ⟨.bl (!o.isSome), H, I3, rfl, q⟩
      · cases e
    · cases e
  | is =>
    unfold cmpOp at e
    simp only at e
    split at e
    · rename_i d1 d2
      have r1 := ox.1
      have r2 := oy.1
      unfold isD at e
      split at e
      · cases e
        exact op_isN pins s σ H x y v u Q I rx ry ⟨r2, by rw [show x = .non from r1]; exact q⟩
      · cases e
        exact op_isBl pins s σ H x y v u Q I rx ry ⟨_, _, r1, r2, q⟩
      · cases e
        refine op_isN pins s σ H x y v u Q I rx ry ⟨r2, ?_⟩
        have : x ≠ .non := rp_non (by assumption) r1
        rw [decide_eq_false this]
        exact q
      · cases e
    · cases e
  | isnot =>
    unfold cmpOp at e
    simp only at e
    split at e
    · rename_i d1 d2
      have r1 := ox.1
      have r2 := oy.1
      split at e
      · rename_i k' e'
        cases e
        unfold isD at e'
        split at e'
        · cases e'
          exact op_notN pins s σ H x y v u Q I rx ry ⟨r2, by rw [show x = .non from r1]; exact q⟩
        · cases e'
          exact op_notBl pins s σ H x y v u Q I rx ry ⟨_, _, r1, r2, q⟩
        · cases e'
          refine op_notN pins s σ H x y v u Q I rx ry ⟨r2, ?_⟩
          have : x ≠ .non := rp_non (by assumption) r1
          rw [decide_eq_false this]
          exact q
        · cases e'
      · cases e
    · cases e
theorem vw_hid {H : Hp} {F : List Addr} {Z : Addr → Prop} : Le (vw H F Z) H := hid_le
theorem c_cmp {c : Cm} (hu : X.A.units + 65 < cLine) (ha : PE X a (xE φ ca X.K W .rd ea)) (hb : PE X b (xE φ ca X.K W .rd eb)) (hm : m ≠ .cd) (hs : behindInMarks (cmAst c) b = false) :
    PE X (.Compare a [cmAst c] [b] pos) (xE φ ca X.K W m (.cmp c ea eb)) := by
  refine PE.imp (pe_cmpR (op_cmp hu c) ha hb hs) fun σ H Q q => ?_
  obtain ⟨Z, ρ, F, s, q⟩ := q
  unfold ev at q
  obtain ⟨Z1, ρ1, F1, s1, q1⟩ := two s q
  refine ⟨Z1, ρ1, F1, s1, q1.imp fun t ρ' h => fun v H' F' fp s' x' a' => ?_⟩
  obtain ⟨Z2, ρ2, F2, s2, q2⟩ := h v H' F' fp s' x' a'
  refine ⟨Z2, ρ2, F2, s2, q2.imp fun u ρ3 h => fun w H3 F3 fp3 s3 x3 a3 => ?_⟩
  obtain ⟨F4, f, ρ4, t, u', s4, x4, ox, oy, q4⟩ := h w H3 F3 fp3 s3 x3 a3
  split at q4
  · rename_i k e
    exact ⟨_, t, u', k, vw_hid, ox, oy, e, Post.val (e := .cmp c ea eb) q4 s4 x4 (fun z => z) rfl⟩
  · exact q4.elim
theorem PostC.of {Z : Addr → Prop} {σ : L2.St} {H H1 : Hp} {F F1 f : List Addr} {ρ1 : Rho} {b : Bool} {Q : Bool → Hp → Prop} {pf : Bool} (h : PostC X.K Z σ H F (.leaf (.bool b)) ρ1 Q) (s : St X.K (zp Z f) σ H1 ρ1 F1) (x : Ext pf H F H1 (F1 ++ f)) : Q b H1 := by
  obtain ⟨b', e, h⟩ := h
  cases e
  exact h H1 F1 (s.unz fun _ z => .inl z) (x.toF.mono fun a ha => by simp [ha])
theorem c_cmpT {c : Cm} (hu : X.A.units + 65 < cLine) (ha : PE X a (xE φ ca X.K W .rd ea)) (hb : PE X b (xE φ ca X.K W .rd eb)) (hs : behindInMarks (cmAst c) b = false) :
    PT X (.Compare a [cmAst c] [b] pos) (xC φ ca X.K W (.cmp c ea eb)) := by
  refine PT.imp (pt_cmpR (op_cmp hu c) ha hb hs) fun σ H Q q => ?_
  obtain ⟨Z, ρ, F, s, q⟩ := q
  unfold ev at q
  obtain ⟨Z1, ρ1, F1, s1, q1⟩ := two s q
  refine ⟨Z1, ρ1, F1, s1, q1.imp fun t ρ' h => fun v H' F' fp s' x' a' => ?_⟩
  obtain ⟨Z2, ρ2, F2, s2, q2⟩ := h v H' F' fp s' x' a'
  refine ⟨Z2, ρ2, F2, s2, q2.imp fun u ρ3 h => fun w H3 F3 fp3 s3 x3 a3 => ?_⟩
  obtain ⟨F4, f, ρ4, t, u', s4, x4, ox, oy, q4⟩ := h w H3 F3 fp3 s3 x3 a3
  split at q4
  · rename_i k e
    exact ⟨_, t, u', k, vw_hid, ox, oy, e, k, rfl, PostC.of q4 s4 x4⟩
  · exact q4.elim
/-- a chain's parts -/
theorem chain_core {γ : Type} {c c' : Cm} {Z : Addr → Prop} {ρ : Rho} {F : List Addr} {σ : L2.St} {H : Hp} {kk : γ → Rho → Prop} {g : Bool → Rho → R γ} {Q : Bool → Hp → Prop} (s : St X.K Z σ H ρ F)
    (q : SatR ca X.K W Z σ H F ((ev φ .rd ea ρ).bind fun x ρ1 => (ev φ .rd eb ρ1).bind fun y ρ2 =>
      if x.isLeaf = true ∧ y.isLeaf = true then
        (match cmpOp c x y with
        | some true => (ev φ .rd ec ρ2).bind fun z ρ3 => (match cmpOp c' y z with | some k => g k ρ3 | none => .bad)
        | some false => g false ρ2
        | none => .bad)
      else .bad) kk)
    (fin : ∀ k ρ' H' F' f, St X.K (zp Z f) σ H' ρ' F' → Ext false H F H' (F' ++ f) → SatR ca X.K W Z σ H F (g k ρ') kk → Q k H') :
    tChain (rCmp X.K c) (rCmp X.K c') (xE φ ca X.K W .rd ea) (xE φ ca X.K W .rd eb) (xE φ ca X.K W .rd ec) σ H fun v H' => ∃ k, v = .bl k ∧ Q k H' := by
  refine ⟨Z, ρ, F, s, q.bind.imp fun t ρ1 h1 => fun v1 H1 F1 f1 s1 x1 a1 => ?_⟩
  refine ⟨zp Z f1, ρ1, F1, s1, h1.bind.rebase x1 fun u ρ2 h2 => fun v2 H2 F2 f2 s2 x2 a2 => ?_⟩
  split at h2
  · rename_i hl
    obtain ⟨fq1, o1⟩ := a1.read s1
    obtain ⟨fq2, o2⟩ := a2.read s2
    cases t with
    | leaf d1 =>
      cases u with
      | leaf d2 =>
        have r1 : Rp X.K (vw H2 F2 (zp (zp Z f1) f2)) d1 v1 := o1.1.le x2.view
        have o1' : Ow X.K (vw H2 F2 (zp (zp Z f1) f2)) H2 (.leaf d1) v1 [] := ⟨r1, rfl⟩
        have xx := x1.trans x2
        split at h2
        · rename_i e
          refine ⟨_, _, _, true, vw_hid, ⟨_, o1'⟩, ⟨_, o2⟩, e, true, rfl, ?_⟩
          rw [if_pos rfl]
          have s2' := s2
          rw [zp_zp] at s2'
          refine ⟨zp Z (f1 ++ f2), ρ2, F2, s2', h2.bind.rebase xx fun w ρ3 h3 => fun v3 H3 F3 f3 s3 x3 a3 => ?_⟩
          obtain ⟨fq3, o3⟩ := a3.read s3
          split at h3
          · rename_i k e'
            rw [zp_zp] at o2
            have o2' : Ow X.K (vw H3 F3 (zp (zp Z (f1 ++ f2)) f3)) H3 (.leaf d2) v2 [] := ⟨o2.1.le x3.view, rfl⟩
            rw [zp_zp] at s3
            exact ⟨_, _, _, k, vw_hid, ⟨_, o2'⟩, ⟨_, o3⟩, e', k, rfl, fin k ρ3 H3 F3 _ s3 (xx.trans x3).toF h3⟩
          · exact h3.elim
        · rename_i e
          refine ⟨_, _, _, false, vw_hid, ⟨_, o1'⟩, ⟨_, o2⟩, e, false, rfl, ?_⟩
          rw [if_neg Bool.false_ne_true]
          rw [zp_zp] at s2
          exact ⟨false, rfl, fin false ρ2 H2 F2 _ s2 xx.toF h2⟩
        · exact h2.elim
      | _ => cases hl.2
    | _ => cases hl.1
  · exact h2.elim
theorem c_chain {c c' : Cm} {d : Expr} (hu : X.A.units + 65 < cLine) (ha : PE X a (xE φ ca X.K W .rd ea)) (hb : PE X b (xE φ ca X.K W .rd eb)) (hc : PE X d (xE φ ca X.K W .rd ec)) (hm : m ≠ .cd)
    (hs : lastMarks [cmAst c, cmAst c'] [b, d] = false) : PE X (.Compare a [cmAst c, cmAst c'] [b, d] pos) (xE φ ca X.K W m (.chain c c' ea eb ec)) := by
  refine PE.imp (pe_chain (op_cmp hu c) (op_cmp hu c') ha hb hc hs) fun σ H Q q => ?_
  obtain ⟨Z, ρ, F, s, q⟩ := q
  unfold ev at q
  have := chain_core (γ := T) (φ := φ) (ca := ca) (W := W) (g := fun k ρ => R.ok (T.leaf (.bool k)) ρ) (Q := fun k H => Q (.bl k) H) s q fun k ρ' H' F' f s' x' h => Post.val (e := .chain c c' ea eb ec) (show Post X.K Z σ H F m (.chain c c' ea eb ec) (T.leaf (.bool k)) ρ' Q from h) s' x' (fun z => by cases z) rfl
  obtain ⟨Z1, ρ1, F1, s1, q1⟩ := this
  refine ⟨Z1, ρ1, F1, s1, q1.imp fun t ρ' h => fun v H' F' fp s' x' a' => ?_⟩
  obtain ⟨Z2, ρ2, F2, s2, q2⟩ := h v H' F' fp s' x' a'
  refine ⟨Z2, ρ2, F2, s2, q2.imp fun u ρ3 h => fun w H3 F3 fp3 s3 x3 a3 => ?_⟩
  obtain ⟨G, t, u', k, g, o1, o2, e, k', e', h⟩ := h w H3 F3 fp3 s3 x3 a3
  refine ⟨G, t, u', k, g, o1, o2, e, k', e', ?_⟩
  cases e'
  cases k with
  | true =>
    rw [if_pos rfl] at h ⊢
    obtain ⟨Z4, ρ4, F4, s4, q4⟩ := h
    refine ⟨Z4, ρ4, F4, s4, q4.imp fun y ρ5 h => fun w5 H5 F5 fp5 s5 x5 a5 => ?_⟩
    obtain ⟨G, t, u', k, g, o1, o2, e, k', e', h⟩ := h w5 H5 F5 fp5 s5 x5 a5
    cases e'
    exact ⟨G, t, u', _, g, o1, o2, e, h⟩
  | false =>
    rw [if_neg Bool.false_ne_true] at h ⊢
    obtain ⟨k', e', h⟩ := h
    cases e'
    exact h
theorem c_chainT {c c' : Cm} {d : Expr} (hu : X.A.units + 65 < cLine) (ha : PE X a (xE φ ca X.K W .rd ea)) (hb : PE X b (xE φ ca X.K W .rd eb)) (hc : PE X d (xE φ ca X.K W .rd ec))
    (hs : lastMarks [cmAst c, cmAst c'] [b, d] = false) : PT X (.Compare a [cmAst c, cmAst c'] [b, d] pos) (xC φ ca X.K W (.chain c c' ea eb ec)) := by
  refine PT.imp (pt_chain (op_cmp hu c) (op_cmp hu c') ha hb hc hs) fun σ H Q q => ?_
  obtain ⟨Z, ρ, F, s, q⟩ := q
  unfold ev at q
  exact chain_core (γ := T) (φ := φ) (ca := ca) (W := W) (g := fun k ρ => R.ok (T.leaf (.bool k)) ρ) (Q := Q) s q fun k ρ' H' F' f s' x' h => PostC.of (show PostC X.K Z σ H F (T.leaf (.bool k)) ρ' Q from h) s' x'
/-! ### truth -/
theorem truth_ok {G H : Hp} {t : T} {v : V} {fq : List Addr} {k : Bool} (g : Le G H) (e : t.truth = some k) (o : Ow X.K G H t v fq) : TruV X.K v H k := by
  cases t with
  | leaf d =>
    have r := o.1
    cases d with
    | none => cases e; rw [show v = .non from r]; rfl
    | bool b => cases e; rw [show v = .bl k from r]; rfl
    | int i => cases e; rw [show v = .int i from r]; rfl
    | str x =>
      unfold T.truth at e
      simp only at e
      split at e
      · rename_i hl
        cases e
        rw [show v = .str x from r]
        refine ⟨hl, ?_⟩
        by_cases h : x.length = 0
        · simp [h]
        · have h2 : ¬ ((x.length : Int) = 0) := by omega
          simp [bne, beq_eq_false_iff_ne.mpr h, beq_eq_false_iff_ne.mpr h2]
      · cases e
    | list xs =>
      cases e
      obtain ⟨a, vs, e1, ha, r⟩ := r
      subst e1
      exact .inl ⟨vs, SqL.of (g _ _ ha), by have := r.len; cases xs <;> cases vs <;> simp at this ⊢⟩
    | tuple xs =>
      cases e
      obtain ⟨a, vs, e1, ha, r⟩ := r
      subst e1
      exact .inr (.inl ⟨vs, SqT.le g ha, by have := r.len; cases xs <;> cases vs <;> simp at this ⊢⟩)
    | dict _ => exact r.elim
  | lst ts =>
    cases e
    obtain ⟨a, vs, f, e1, ha, ef, r⟩ := o
    subst e1
    exact .inl ⟨vs, SqL.of ha, by have := r.len; cases ts <;> cases vs <;> simp at this ⊢⟩
  | dct kvs =>
    cases e
    obtain ⟨a, ws, f, e1, ha, ef, nd, r⟩ := o
    subst e1
    exact .inr (.inr ⟨ws, ha, by have := r.len; cases kvs <;> cases ws <;> simp at this ⊢⟩)
  | scr ns =>
    cases e
    obtain ⟨a, e1, ha, ef⟩ := o
    subst e1
    exact .inl ⟨_, SqL.le g ha, by cases ns <;> simp⟩
  | rng _ _ => cases e
  | hole _ => cases e
  | xcp _ _ _ => cases e
/-- a value as a test, by its truth -/
theorem c_test (ha : PE X a (xE φ ca X.K W .rd ea)) (he : ∀ whole, isTrue a X.env whole = (do let v ← whole; standAt a.pos; holding [v] (truthy v)))
    (hev : ∀ ρ, ev φ .cd ea ρ = (ev φ .rd ea ρ).bind fun t ρ => match t.truth with | some b => .ok (.leaf (.bool b)) ρ | none => .bad) : PT X a (xC φ ca X.K W ea) := by
  refine PT.imp (pt_truth ha he) fun σ H Q q => ?_
  obtain ⟨Z, ρ, F, s, q⟩ := q
  rw [hev] at q
  refine ⟨Z, ρ, F, s, q.bind.imp fun t ρ1 h1 => fun v H1 F1 f1 s1 x1 a1 => ?_⟩
  obtain ⟨fq, o⟩ := a1.read s1
  split at h1
  · rename_i k e
    exact ⟨k, truth_ok vw_hid e o, PostC.of h1 s1 x1⟩
  · exact h1.elim
/-! ### and, or, not, if -/
theorem Air.any {Z : Addr → Prop} {σ : L2.St} {H : Hp} {ρ : Rho} {F : List Addr} {e : E} {d : D} {v : V} {fp : List Addr} {m : M} (a : Air X.K Z σ H ρ F m e (.leaf d) v fp) (s : St X.K (zp Z fp) σ H ρ F) : Rp X.K (vw H F Z) d v := by
  obtain ⟨fq, o⟩ := a.read s
  exact o.1.le vw_unz
theorem c_and {rest : List Expr} (ha : PE X a (xE φ ca X.K W .rd ea)) (hb : PE X (.BoolOp .And (b :: rest) pos) (xE φ ca X.K W .rd eb)) (hm : m ≠ .cd) : PE X (.BoolOp .And (a :: b :: rest) pos) (xE φ ca X.K W m (.and ea eb)) := by
  refine PE.imp (pe_andT ha hb) fun σ H Q q => ?_
  obtain ⟨Z, ρ, F, s, q⟩ := q
  unfold ev at q
  rw [if_neg hm] at q
  refine ⟨Z, ρ, F, s, q.bind.imp fun t ρ1 h1 => fun v H1 F1 f1 s1 x1 a1 => ?_⟩
  obtain ⟨fq, o⟩ := a1.read s1
  split at h1
  · rename_i d
    split at h1
    · rename_i e
      refine ⟨true, truth_ok vw_hid e o, ?_⟩
      rw [if_pos rfl]
      refine ⟨zp Z f1, ρ1, F1, s1, h1.bind.rebase x1 fun y ρ2 h2 => fun w H2 F2 f2 s2 x2 a2 => ?_⟩
      split at h2
      · rename_i hl
        cases y with
        | leaf d2 =>
          have s2' := s2
          rw [zp_zp] at s2'
          have r := a2.any s2
          exact Post.val (e := .and ea eb) h2 s2' (x1.trans x2) (fun z => by cases z) (r.le vw_unz)
        | _ => cases hl
      · exact h2.elim
    · rename_i e
      refine ⟨false, truth_ok vw_hid e o, ?_⟩
      rw [if_neg Bool.false_ne_true]
      exact Post.val (e := .and ea eb) h1 s1 x1 (fun z => by cases z) (a1.any s1)
    · exact h1.elim
  · exact h1.elim
theorem c_or {rest : List Expr} (ha : PE X a (xE φ ca X.K W .rd ea)) (hb : PE X (.BoolOp .Or (b :: rest) pos) (xE φ ca X.K W .rd eb)) (hm : m ≠ .cd) : PE X (.BoolOp .Or (a :: b :: rest) pos) (xE φ ca X.K W m (.or ea eb)) := by
  refine PE.imp (pe_orT ha hb) fun σ H Q q => ?_
  obtain ⟨Z, ρ, F, s, q⟩ := q
  unfold ev at q
  rw [if_neg hm] at q
  refine ⟨Z, ρ, F, s, q.bind.imp fun t ρ1 h1 => fun v H1 F1 f1 s1 x1 a1 => ?_⟩
  obtain ⟨fq, o⟩ := a1.read s1
  split at h1
  · rename_i d
    split at h1
    · rename_i e
      refine ⟨false, truth_ok vw_hid e o, ?_⟩
      rw [if_neg Bool.false_ne_true]
      refine ⟨zp Z f1, ρ1, F1, s1, h1.bind.rebase x1 fun y ρ2 h2 => fun w H2 F2 f2 s2 x2 a2 => ?_⟩
      split at h2
      · rename_i hl
        cases y with
        | leaf d2 =>
          have s2' := s2
          rw [zp_zp] at s2'
          have r := a2.any s2
          exact Post.val (e := .or ea eb) h2 s2' (x1.trans x2) (fun z => by cases z) (r.le vw_unz)
        | _ => cases hl
      · exact h2.elim
    · rename_i e
      refine ⟨true, truth_ok vw_hid e o, ?_⟩
      rw [if_pos rfl]
      exact Post.val (e := .or ea eb) h1 s1 x1 (fun z => by cases z) (a1.any s1)
    · exact h1.elim
  · exact h1.elim
theorem c_not (ha : PE X a (xE φ ca X.K W .rd ea)) (hm : m ≠ .cd) : PE X (.UnaryOp .Not a pos) (xE φ ca X.K W m (.not ea)) := by
  refine PE.imp (pe_notT ha) fun σ H Q q => ?_
  obtain ⟨Z, ρ, F, s, q⟩ := q
  unfold ev at q
  rw [if_neg hm] at q
  refine ⟨Z, ρ, F, s, q.bind.imp fun t ρ1 h1 => fun v H1 F1 f1 s1 x1 a1 => ?_⟩
  obtain ⟨fq, o⟩ := a1.read s1
  split at h1
  · rename_i k e
    exact ⟨k, truth_ok vw_hid e o, Post.val (e := .not ea) h1 s1 x1 (fun z => by cases z) rfl⟩
  · exact h1.elim
/-- a test's step -/
theorem PostC.step {γ : Type} {Z : Addr → Prop} {σ : L2.St} {H : Hp} {F : List Addr} {r : R T} {f : T → Rho → R γ} {k : γ → Rho → Prop} {Q : Bool → Hp → Prop} (h : SatR ca X.K W Z σ H F (r.bind f) k)
    (hb : ∀ t ρ', SatR ca X.K W Z σ H F (f t ρ') k → ∃ b, t = .leaf (.bool b))
    (g : ∀ b ρ' H' F', St X.K Z σ H' ρ' F' → Ext false H F H' F' → SatR ca X.K W Z σ H F (f (.leaf (.bool b)) ρ') k → Q b H') : SatR ca X.K W Z σ H F r fun t ρ' => PostC X.K Z σ H F t ρ' Q := by
  refine h.bind.imp fun t ρ' h1 => ?_
  obtain ⟨b, e⟩ := hb t ρ' h1
  subst e
  exact ⟨b, rfl, fun H' F' s x => g b ρ' H' F' s x h1⟩
theorem SatR.rebase0 {Z : Addr → Prop} {σ : L2.St} {H H1 : Hp} {F F1 : List Addr} {α : Type} {pf : Bool} {r : R α} {k k' : α → Rho → Prop} (h : SatR ca X.K W Z σ H F r k) (x : Ext pf H F H1 F1) (g : ∀ a ρ', k a ρ' → k' a ρ') : SatR ca X.K W Z σ H1 F1 r k' := by
  have := h.rebase (f := []) (F1 := F1) (by rw [List.append_nil]; exact x) g
  rw [zp_nil] at this
  exact this
theorem c_andT {rest : List Expr} (ha : PT X a (xC φ ca X.K W ea)) (hb : PW X (.BoolOp .And (b :: rest) pos) (xC φ ca X.K W eb)) : PW X (.BoolOp .And (a :: b :: rest) pos) (xC φ ca X.K W (.and ea eb)) := by
  refine PW.imp (pw_and ha hb) fun σ H Q q => ?_
  obtain ⟨Z, ρ, F, s, q⟩ := q
  unfold ev at q
  rw [if_pos rfl] at q
  refine ⟨Z, ρ, F, s, PostC.step q (fun t ρ' h => ?_) fun b ρ1 H1 F1 s1 x1 h1 => ?_⟩
  · split at h
    · exact ⟨_, rfl⟩
    · exact ⟨_, rfl⟩
    · exact h.elim
  · cases b with
    | true =>
      rw [if_pos rfl]
      refine ⟨Z, ρ1, F1, s1, SatR.rebase0 h1 x1 fun y ρ2 h2 => ?_⟩
      obtain ⟨b2, e2, h2⟩ := h2
      refine ⟨b2, e2, fun H2 F2 s2 x2 => h2 H2 F2 s2 ?_⟩
      have xx := (Ext.trans (f := []) (g := []) (by rw [List.append_nil]; exact x1) (by rw [List.append_nil]; exact x2))
      simpa using xx
    | false =>
      rw [if_neg Bool.false_ne_true]
      obtain ⟨b2, e2, h2⟩ := h1
      cases e2
      exact h2 H1 F1 s1 x1
theorem c_orT {rest : List Expr} (ha : PT X a (xC φ ca X.K W ea)) (hb : PW X (.BoolOp .Or (b :: rest) pos) (xC φ ca X.K W eb)) : PW X (.BoolOp .Or (a :: b :: rest) pos) (xC φ ca X.K W (.or ea eb)) := by
  refine PW.imp (pw_or ha hb) fun σ H Q q => ?_
  obtain ⟨Z, ρ, F, s, q⟩ := q
  unfold ev at q
  rw [if_pos rfl] at q
  refine ⟨Z, ρ, F, s, PostC.step q (fun t ρ' h => ?_) fun b ρ1 H1 F1 s1 x1 h1 => ?_⟩
  · split at h
    · exact ⟨_, rfl⟩
    · exact ⟨_, rfl⟩
    · exact h.elim
  · cases b with
    | false =>
      rw [if_neg Bool.false_ne_true]
      refine ⟨Z, ρ1, F1, s1, SatR.rebase0 h1 x1 fun y ρ2 h2 => ?_⟩
      obtain ⟨b2, e2, h2⟩ := h2
      refine ⟨b2, e2, fun H2 F2 s2 x2 => h2 H2 F2 s2 ?_⟩
      have xx := (Ext.trans (f := []) (g := []) (by rw [List.append_nil]; exact x1) (by rw [List.append_nil]; exact x2))
      simpa using xx
    | true =>
      rw [if_pos rfl]
      obtain ⟨b2, e2, h2⟩ := h1
      cases e2
      exact h2 H1 F1 s1 x1
theorem c_notT (ha : PT X a (xC φ ca X.K W ea)) : PT X (.UnaryOp .Not a pos) (xC φ ca X.K W (.not ea)) := by
  refine PT.imp (pt_not ha) fun σ H Q q => ?_
  obtain ⟨Z, ρ, F, s, q⟩ := q
  unfold ev at q
  rw [if_pos rfl] at q
  refine ⟨Z, ρ, F, s, PostC.step q (fun t ρ' h => ?_) fun b ρ1 H1 F1 s1 x1 h1 => ?_⟩
  · split at h
    · exact ⟨_, rfl⟩
    · exact h.elim
  · obtain ⟨b2, e2, h2⟩ := h1
    cases e2
    exact h2 H1 F1 s1 x1
theorem c_ite {t : Expr} {et : E} (hc : PT X t (xC φ ca X.K W et)) (ha : PE X a (xE φ ca X.K W m ea)) (hb : PE X b (xE φ ca X.K W m eb)) (hm : m ≠ .cd) : PE X (.IfExp t a b pos) (xE φ ca X.K W m (.ite et ea eb)) := by
  have fin : ∀ {Z : Addr → Prop} {σ : L2.St} {H H1 : Hp} {F F1 : List Addr} {ρ1 : Rho} {Q : VK} {ex : E}, St X.K Z σ H1 ρ1 F1 → Ext false H F H1 F1 →
      SatR ca X.K W Z σ H F ((ev φ m ex ρ1).bind fun y ρ2 => if y.isLeaf = true ∨ m = .mv then .ok y ρ2 else .bad) (fun t ρ' => Post X.K Z σ H F m (.ite et ea eb) t ρ' Q) → xE φ ca X.K W m ex σ H1 Q := fun {Z σ H H1 F F1 ρ1 Q ex} s1 x1 h => by
    refine ⟨Z, ρ1, F1, s1, SatR.rebase0 h.bind x1 fun y ρ2 h2 => fun w H2 F2 f2 s2 x2 a2 => ?_⟩
    have xx : Ext false H F H2 (F2 ++ f2) := by
      have := (Ext.trans (f := []) (by rw [List.append_nil]; exact x1) x2)
      simpa using this
    split at h2
    · rename_i hl
      by_cases hmv : m = .mv
      · subst hmv
        have := a2.mv
        exact h2 w H2 F2 f2 s2 (xx.weak fun z => by cases z) this
      · rcases hl with hl | hl
        · cases y with
          | leaf d2 => exact Post.val (e := .ite et ea eb) h2 s2 xx (fun z => by cases z) (a2.any s2)
          | _ => cases hl
        · exact absurd hl hmv
    · exact h2.elim
  refine PE.imp (pe_ifExp hc ha hb) fun σ H Q q => ?_
  obtain ⟨Z, ρ, F, s, q⟩ := q
  unfold ev at q
  refine ⟨Z, ρ, F, s, PostC.step q (fun t ρ' h => ?_) fun b ρ1 H1 F1 s1 x1 h1 => ?_⟩
  · split at h
    · exact ⟨_, rfl⟩
    · exact ⟨_, rfl⟩
    · exact h.elim
  · cases b with
    | true =>
      rw [if_pos rfl]
      exact fin s1 x1 h1
    | false =>
      rw [if_neg Bool.false_ne_true]
      exact fin s1 x1 h1
end
end Pz
/-! P2z: sorted(xs) of tuples of small ints, any number of them. -/
namespace SrtO
open PySem PyProof.Rows Srt
section
variable {prog : Program} {w : World} {A : Around} {s : Shared}
theorem pz_sortable {d : Nat} {B : Int} {vs : List Value} {a : Addr} (hd : 1 ≤ d) (h2 : 2 ≤ vs.length) (x : TS.TupsOk s.heap d B vs) (ha : ∀ o, s.heap.get? a = some o → o.cls ≠ .type "tuple")
    (rk : Value → Int) (hr : ∀ v, v ∈ vs → ∀ ns, TS.TupInts s.heap v ns → rk v = TS.code B ns) : SortableO prog w A s a vs fun u v => decide (rk u < rk v) := by
  intro h' keep
  have kp : ∀ b o, s.heap.get? b = some o → o.cls = .type "tuple" → h'.get? b = some o := fun b o e c => keep b o (fun z => by subst z; exact ha o e c) e
  have x' := x.keeps kp
  obtain ⟨fs, k1, k2, k3⟩ := TS.firsts_of hd vs x'
  refine ⟨tuples' true, fun Q E hq => ?_, ?_⟩
  · refine PySem.W.kat_kind (T := .type "int") k1 (by omega) (fun f hm => ?_) (by rfl) ?_
    · obtain ⟨n, t, rfl⟩ := k3 f hm
      exact PySem.W.Looks.now
    · have e : (Value.type "int" != Value.type "tuple") = true := by decide +kernel
      rw [e]; exact hq
  · intro p q hp hq
    show wpAny (model prog w) A (keyLt' (tuples' true) p.1 q.1) (fun r s' => s' = { s with heap := h' } ∧ r = decide (rk p.1 < rk q.1)) (fun _ _ => False) { s with heap := h' }
    obtain ⟨ns, tp, lp, bp⟩ := x _ hp
    obtain ⟨ms, tq, lq, bq⟩ := x _ hq
    rw [hr _ hp _ tp, hr _ hq _ tq]
    have tp' := tp.keeps kp
    have tq' := tq.keeps kp
    obtain ⟨a1, xs, e1, ⟨o, ho, hc, n, hdt⟩, i⟩ := tp'
    obtain ⟨a2, ys, e2, ⟨o', ho', hc', n', hdt'⟩, i'⟩ := tq'
    rw [e1, e2]
    refine PySem.W.kat_lt ho hdt ho' hdt' ?_
    have sz : decide (xs.size < ys.size) = false := by
      have l1 := i.length
      have l2 := i'.length
      rw [Array.length_toList] at l1 l2
      exact decide_eq_false (by omega)
    rw [sz]
    exact TS.lex_ints 0 i i' (by omega) bp bq ⟨rfl, rfl⟩
theorem pz_swo {α : Type} (rk : α → Int) : Swo fun u v => decide (rk u < rk v) := by
  refine ⟨fun x y h => ?_, fun x y z h1 h2 => ?_⟩
  · have a := of_decide_eq_true h
    exact decide_eq_false (by omega)
  · have a := of_decide_eq_false h1
    have b := of_decide_eq_false h2
    exact decide_eq_false (by omega)
end
end SrtO
namespace L2
open PySem PySem.Spec PyProof.Rows
section
variable {X : Cx}
def pzSort (K : PySem.W.Frag) (d : Nat) (B : Int) : List V → Hp → VK → Prop := fun vs H Q => ∃ (a : Addr) (xs : List V), vs = [V.ref a] ∧ SqL K H a xs ∧ (∀ x ∈ xs, ∃ ns, TupI K H x ns ∧ ns.length = d ∧ TS.Bd B ns) ∧
  ∀ (ys : List V) (p : Addr), ys.Perm xs → ys.Pairwise (fun x y => ∀ n m, TupI K H x n → TupI K H y m → TS.code B n ≤ TS.code B m) → H p = none → Q (.ref p) (upd H p (.lst ys))
theorem cr_pzSort {d : Nat} {B : Int} (hd : 1 ≤ d) : CallR X (.builtin "sorted") (pzSort X.K d B) := by
  intro pins s σ H vs us Q I r h
  obtain ⟨a, xs, rfl, hs, hx, q⟩ := h
  obtain ⟨its, rv, hl, hz⟩ := I.list hs
  have zl : its.length ≤ sizeLine := by rw [← rv.length]; exact hz
  obtain ⟨e1, e2⟩ := bkV_refs rv fun x m => by
    obtain ⟨ns, ⟨t, e, _⟩, _⟩ := hx x m
    exact ⟨t, e⟩
  have ok : TS.TupsOk s.heap d B its := fun v hv => by
    obtain ⟨t, rfl⟩ := e2 v hv
    obtain ⟨ns, ⟨t', e, ht⟩, hn, hb⟩ := hx (V.ref t) (by rw [e1]; exact List.mem_map.mpr ⟨_, hv, rfl⟩)
    cases e
    exact ⟨ns, tupI_raw I ht, hn, hb⟩
  rw [Vals.ref1 r]
  refine SrtO.sorted_ord (ltv := fun u v => decide (TS.code B (TS.intsOf s.heap u) < TS.code B (TS.intsOf s.heap v))) (SrtO.pz_swo _) hl.isList zl (fun h2 h₁ b hb kk => ?_) fun out h1 h2 => ?_
  · refine SrtO.pz_sortable hd h2 (ok.keeps fun c o e _ => (kk c o e).2) (fun o e c => ?_) _ fun v hv ns t => ?_
    · have e' : some o = some (seqObj "list" its.toArray 0) := e.symm.trans hb
      cases e'
      exact absurd (Value.type.inj c) (by decide)
    · obtain ⟨ns0, t0, _⟩ := ok v hv
      have e := (t0.keeps fun c o e _ => (kk c o e).2).ints
      have e' := t.ints
      have e0 := t0.ints
      rw [e] at e'
      rw [e0, e']
  · obtain ⟨ep, he'⟩ := PyProof.Rows.sortedAll_at s.heap its out.toArray
    have h3 : ∀ u ∈ out, ∃ c, u = Value.ref c := fun u hu => e2 u (h2.perm.mem_iff.mp hu)
    have hp : (out.map bkV).Perm xs := by rw [e1]; exact h2.perm.map bkV
    refine ⟨.ref _, upd H (s.heap.objs.size + 1) (.lst (out.map bkV)), I.laid (t' := s.toks) (fun _ _ => PyProof.Rows.sortedAll_old) (Nat.le_succ _) ⟨by rw [hp.length_eq]; exact hz, out, ep, bkV_vals h3, he'⟩, rfl, q _ _ hp ?_ (I.hok.fresh (Nat.le_succ _))⟩
    rw [List.pairwise_map]
    refine List.Pairwise.imp (fun {u v} huv n m hn hm => ?_) h1
    obtain ⟨t, et, ht⟩ := hn
    obtain ⟨t', et', ht'⟩ := hm
    have i1 : TS.intsOf s.heap u = n := by rw [bkV_ref et]; exact (tupI_raw I ht).ints
    have i2 : TS.intsOf s.heap v = m := by rw [bkV_ref et']; exact (tupI_raw I ht').ints
    have := of_decide_eq_false huv
    rw [i1, i2] at this
    omega
end
end L2
namespace Pz
open PySem PySem.Spec PyProof.Rows L2
theorem intsOf_eq : ∀ {ds : List D} {ns : List Int}, intsOf ds = some ns → ds = ns.map .int
  | [], ns, h => by cases h; rfl
  | d :: r, ns, h => by
    cases d with
    | int i =>
      unfold intsOf at h
      cases e : intsOf r with
      | none => rw [e] at h; cases h
      | some ms => rw [e] at h; cases h; rw [intsOf_eq e]; rfl
    | _ => cases h
theorem tupsOf_eq : ∀ {xs : List D} {nss : List (List Int)}, tupsOf xs = some nss → xs = nss.map tupD
  | [], nss, h => by cases h; rfl
  | d :: r, nss, h => by
    unfold tupsOf at h
    cases e1 : tupI d with
    | none => rw [e1] at h; cases h
    | some ns =>
      cases e2 : tupsOf r with
      | none => rw [e1, e2] at h; cases h
      | some mss =>
        rw [e1, e2] at h
        cases h
        rw [tupsOf_eq e2]
        cases d with
        | tuple ds => rw [intsOf_eq (show intsOf ds = some ns from e1)]; rfl
        | _ => cases e1
theorem tcode_eq : ∀ (ns : List Int), tcode ns = TS.code 1000 ns
  | [] => rfl
  | d :: r => by rw [tcode, tcode_eq r]; rfl
theorem okTups_ok {nss : List (List Int)} (h : okTups nss = true) : ∃ d, 1 ≤ d ∧ ∀ ns ∈ nss, ns.length = d ∧ TS.Bd 1000 ns := by
  cases nss with
  | nil => cases h
  | cons ns r =>
    unfold okTups at h
    simp only [Bool.and_eq_true, decide_eq_true_eq, List.all_eq_true] at h
    exact ⟨ns.length, h.1, fun ms hm => ⟨(h.2 ms hm).1, fun m hx => (h.2 ms hm).2 m hx⟩⟩
section
variable {K : Frag} {G H : Hp}
theorem RpL.mem_tup : ∀ {nss : List (List Int)} {vs : List V} {x : V}, RpL K G (nss.map tupD) vs → x ∈ vs → ∃ ns ∈ nss, Rp K G (tupD ns) x
  | [], vs, x, h, hx => by
    cases (show vs = [] from h)
    cases hx
  | n :: r, vs, x, h, hx => by
    obtain ⟨v, t, rfl, h1, h2⟩ := h
    rcases List.mem_cons.1 hx with e | hx
    · subst e; exact ⟨n, List.mem_cons_self .., h1⟩
    · obtain ⟨m, hm, hr⟩ := RpL.mem_tup h2 hx
      exact ⟨m, List.mem_cons_of_mem _ hm, hr⟩
theorem intsOf_map : ∀ (ns : List Int), intsOf (ns.map .int) = some ns
  | [] => rfl
  | n :: r => by simp only [List.map_cons, intsOf, intsOf_map r]
theorem Rp.tupI {ns : List Int} {x : V} (h : Rp K G (tupD ns) x) (g : Le G H) : TupI K H x ns := by
  obtain ⟨a, vs, e, ha, r⟩ := h
  obtain ⟨e2, _⟩ := r.ints (intsOf_map ns)
  subst e2
  exact ⟨a, e, SqT.le g ha⟩
theorem RpL.perm_tup {vs ys : List V} (p : ys.Perm vs) : ∀ {nss : List (List Int)}, RpL K G (nss.map tupD) vs → ∃ mss : List (List Int), mss.Perm nss ∧ RpL K G (mss.map tupD) ys := by
  induction p with
  | nil => intro nss h; exact ⟨nss, List.Perm.refl _, h⟩
  | cons x _ ih =>
    intro nss h
    cases nss with
    | nil => cases (show _ :: _ = [] from h)
    | cons n r =>
      obtain ⟨v, t, e, h1, h2⟩ := h
      cases e
      obtain ⟨mss, p1, p2⟩ := ih h2
      exact ⟨n :: mss, p1.cons n, .cons h1 p2⟩
  | swap x y l =>
    intro nss h
    cases nss with
    | nil => cases (show _ :: _ = [] from h)
    | cons n r =>
      obtain ⟨v, t, e, h1, h2⟩ := h
      cases e
      cases r with
      | nil => cases (show _ :: _ = [] from h2)
      | cons m r =>
        obtain ⟨v2, t2, e2, h3, h4⟩ := h2
        cases e2
        exact ⟨m :: n :: r, List.Perm.swap .., .cons h3 (.cons h1 h4)⟩
  | trans _ _ ih1 ih2 =>
    intro nss h
    obtain ⟨m1, p1, r1⟩ := ih2 h
    obtain ⟨m2, p2, r2⟩ := ih1 r1
    exact ⟨m2, p2.trans p1, r2⟩
theorem RpL.has_tup : ∀ {mss : List (List Int)} {ys : List V} {m : List Int}, RpL K G (mss.map tupD) ys → m ∈ mss → ∃ y ∈ ys, Rp K G (tupD m) y
  | [], _, _, _, h => by cases h
  | n :: r, ys, m, h, hm => by
    obtain ⟨v, t, rfl, h1, h2⟩ := h
    rcases List.mem_cons.1 hm with e | hm
    · subst e; exact ⟨v, List.mem_cons_self .., h1⟩
    · obtain ⟨y, hy, hr⟩ := RpL.has_tup h2 hm
      exact ⟨y, List.mem_cons_of_mem _ hy, hr⟩
theorem sorted_tup (g : Le G H) : ∀ {mss : List (List Int)} {ys : List V}, RpL K G (mss.map tupD) ys → ys.Pairwise (fun x y => ∀ n m, TupI K H x n → TupI K H y m → TS.code 1000 n ≤ TS.code 1000 m) → mss.Pairwise fun n m => TS.code 1000 n ≤ TS.code 1000 m
  | [], _, _, _ => List.Pairwise.nil
  | n :: r, ys, h, s => by
    obtain ⟨v, t, rfl, h1, h2⟩ := h
    obtain ⟨s1, s2⟩ := List.pairwise_cons.1 s
    refine List.pairwise_cons.2 ⟨fun m hm => ?_, sorted_tup g h2 s2⟩
    obtain ⟨y, hy, hr⟩ := RpL.has_tup h2 hm
    exact s1 y hy n m (h1.tupI g) (hr.tupI g)
end
theorem code_inj : ∀ {ns ms : List Int}, ns.length = ms.length → TS.Bd 1000 ns → TS.Bd 1000 ms → TS.code 1000 ns = TS.code 1000 ms → ns = ms
  | [], [], _, _, _, _ => rfl
  | [], _ :: _, h, _, _, _ => by cases h
  | _ :: _, [], h, _, _, _ => by cases h
  | p :: ns, q :: ms, h, h1, h2, e => by
    have hl : ns.length = ms.length := by simpa using h
    rcases Int.lt_trichotomy p q with c | c | c
    · have := TS.code_lt hl h1.tail h2.tail c; omega
    · subst c
      have e' : TS.code 1000 ns = TS.code 1000 ms := by
        have : p * 1000 ^ ns.length + TS.code 1000 ns = p * 1000 ^ ms.length + TS.code 1000 ms := e
        rw [hl] at this
        omega
      rw [code_inj hl h1.tail h2.tail e']
    · have := TS.code_lt hl.symm h2.tail h1.tail c; omega
theorem insT_perm (n : List Int) : ∀ nss : List (List Int), (insT n nss).Perm (n :: nss)
  | [] => List.Perm.refl _
  | m :: r => by
    unfold insT
    split
    · exact List.Perm.refl _
    · exact ((insT_perm n r).cons m).trans (List.Perm.swap n m r)
theorem sortT_perm : ∀ nss : List (List Int), (sortT nss).Perm nss
  | [] => List.Perm.refl _
  | n :: r => (insT_perm n _).trans ((sortT_perm r).cons n)
abbrev leT (n m : List Int) : Prop := TS.code 1000 n ≤ TS.code 1000 m
theorem insT_sorted (n : List Int) : ∀ nss : List (List Int), nss.Pairwise leT → (insT n nss).Pairwise leT
  | [], _ => by simp [insT]
  | m :: r, h => by
    unfold insT
    obtain ⟨h1, h2⟩ := List.pairwise_cons.mp h
    split
    · rename_i hc
      rw [tcode_eq, tcode_eq] at hc
      refine List.pairwise_cons.mpr ⟨fun y hy => ?_, h⟩
      rcases List.mem_cons.mp hy with rfl | hy
      · exact hc
      · exact Int.le_trans hc (h1 y hy)
    · rename_i hc
      rw [tcode_eq, tcode_eq] at hc
      refine List.pairwise_cons.mpr ⟨fun y hy => ?_, insT_sorted n r h2⟩
      rcases List.mem_cons.mp ((insT_perm n r).mem_iff.mp hy) with rfl | hy
      · show TS.code 1000 m ≤ TS.code 1000 y; omega
      · exact h1 y hy
theorem sortT_sorted : ∀ nss : List (List Int), (sortT nss).Pairwise leT
  | [] => List.Pairwise.nil
  | n :: r => insT_sorted n _ (sortT_sorted r)
theorem sorted_uniq : ∀ {xs ys : List (List Int)}, xs.Perm ys → xs.Pairwise leT → ys.Pairwise leT → (∀ a ∈ xs, ∀ b ∈ xs, TS.code 1000 a = TS.code 1000 b → a = b) → xs = ys
  | [], ys, p, _, _, _ => p.nil_eq
  | x :: xs, [], p, _, _, _ => by simpa using p.length_eq
  | x :: xs, y :: ys, p, h1, h2, inj => by
    obtain ⟨a1, a2⟩ := List.pairwise_cons.mp h1
    obtain ⟨b1, b2⟩ := List.pairwise_cons.mp h2
    have hy : y ∈ x :: xs := p.mem_iff.mpr (List.mem_cons_self ..)
    have hx : x ∈ y :: ys := p.mem_iff.mp (List.mem_cons_self ..)
    have e : x = y := by
      rcases List.mem_cons.mp hx with h | h
      · exact h
      · rcases List.mem_cons.mp hy with h' | h'
        · exact h'.symm
        · exact inj x (List.mem_cons_self ..) y hy (Int.le_antisymm (a1 y h') (b1 x h))
    subst e
    rw [sorted_uniq (List.Perm.cons_inv p) a2 b2 fun a ha b hb => inj a (List.mem_cons_of_mem _ ha) b (List.mem_cons_of_mem _ hb)]
theorem sortT_one {nss mss : List (List Int)} {d : Nat} (hok : ∀ ns ∈ nss, ns.length = d ∧ TS.Bd 1000 ns) (p : mss.Perm nss) (s : mss.Pairwise leT) : mss = sortT nss := by
  refine sorted_uniq (p.trans (sortT_perm nss).symm) s (sortT_sorted nss) fun a ha b hb e => ?_
  obtain ⟨l1, b1⟩ := hok a (p.mem_iff.1 ha)
  obtain ⟨l2, b2⟩ := hok b (p.mem_iff.1 hb)
  exact code_inj (by rw [l1, l2]) b1 b2 e
end Pz
/-! P2f: subscripts, slices, built-in functions. -/
namespace Pz
open PySem PySem.Spec PyProof.Rows L2
section
variable {X : Cx} {φ : Nat → List T → FR} {ca : Nat → Addr} {W : WX} {m : M} {a b c : Expr} {ea eb ec : E} {pos : Pos}
theorem ix_dict (hu : X.A.units + 1 < cLine) : IxR X (fun x y H Q => ∃ p v, x = .ref p ∧ DGet H p y (some v) ∧ Q v H) := by
  intro value slice pins s σ H x y v u Q I rx ry h hs
  obtain ⟨p, z, rfl, g, q⟩ := h
  cases rx
  have hT := dict_typeIs I g
  have h₂ : wpAny (model X.prog X.w) X.A (getItem (.ref p) u) (EP X pins σ Q) X.xe s := d_getItem hu I g ry fun w' s3 I3 rw' => ⟨z, H, I3, rw', q⟩
  unfold subscriptTail
  refine wpAny_bind ?_
  rw [getitemInPython_of_ne hT.not_modules]
  refine wpAny_bind (wpAny_specialOf hT PySem.F.slot_dict_getitem.lookup ?_)
  have fin : wpAny (model X.prog X.w) X.A (subscripted slice false (.ref p) u) (fun r s₃ => wpAny (model X.prog X.w) X.A (letTemporaryGo value (.ref p) r >>= fun _ => pure r) (EP X pins σ Q) X.xe s₃) X.xe s := by
    rw [hs]
    exact wpAny_operating (wpAny_mono h₂ (fun r s₃ h₃ => wpAny_bind (wpAny_letTemporaryGo (wpAny_pure h₃))) fun _ _ x => x)
  first
    | exact wpAny_pure (wpAny_bind fin)
    | exact wpAny_bind (wpAny_pure (wpAny_bind fin))
    | exact wpAny_bind fin
/-- a subscript of anything that can be read -/
def rIdx (K : Frag) : R2 := fun x y H Q => ∃ G t d u, Le G H ∧ (∃ fq, Ow K G H t x fq) ∧ Rp K G d y ∧ idxT t d = some u ∧ ∀ v, (∃ fq, Ow K G H u v fq) → Q v H
theorem atI_map {α β : Type} {f : α → β} {xs : List α} {i : Int} : (atI xs i).map f = atI (xs.map f) i := by
  unfold atI
  rw [List.length_map]
  cases ixN xs.length i with
  | none => rfl
  | some j => simp
theorem atI_some {α : Type} {xs : List α} {i : Int} {v : α} (h : atI xs i = some v) : ∃ j, ixN xs.length i = some j ∧ xs[j]? = some v := by
  unfold atI at h
  cases e : ixN xs.length i with
  | none => rw [e] at h; cases h
  | some j => rw [e] at h; exact ⟨j, rfl, h⟩
theorem atI_of {α : Type} {xs : List α} {i : Int} {v : α} {j : Nat} (h : ixN xs.length i = some j) (h2 : xs[j]? = some v) : atI xs i = some v := by
  unfold atI
  rw [h]
  exact h2
theorem ix_any (hu : X.A.units + 1 < cLine) : IxR X (rIdx X.K) := by
  intro value slice pins s σ H x y v u Q I rx ry h hs
  obtain ⟨G, t, d, r, g, ⟨fq, o⟩, ry', e, q⟩ := h
  unfold idxT at e
  split at e
  · rename_i xs k
    obtain ⟨a, vs, e1, ha, r1⟩ := o.1
    rw [Option.map_eq_some_iff] at e
    obtain ⟨d', e2, e3⟩ := e
    obtain ⟨j, hj, hx⟩ := atI_some e2
    obtain ⟨v', hv, rv⟩ := r1.get hx
    subst e3
    exact ix_list value slice pins s σ H x y v u Q I rx ry ⟨a, vs, k, v', e1, ry', SqL.of (g _ _ ha), atI_of (by rw [← r1.len]; exact hj) hv, q v' ⟨_, rv, rfl⟩⟩ hs
  · rename_i xs k
    obtain ⟨a, vs, e1, ha, r1⟩ := o.1
    rw [Option.map_eq_some_iff] at e
    obtain ⟨d', e2, e3⟩ := e
    obtain ⟨j, hj, hx⟩ := atI_some e2
    obtain ⟨v', hv, rv⟩ := r1.get hx
    subst e3
    exact ix_tup value slice pins s σ H x y v u Q I rx ry ⟨a, vs, k, v', e1, ry', SqT.le g ha, atI_of (by rw [← r1.len]; exact hj) hv, q v' ⟨_, rv, rfl⟩⟩ hs
  · rename_i z k
    split at e
    · rename_i hl
      rw [Option.map_eq_some_iff] at e
      obtain ⟨c, e2, e3⟩ := e
      subst e3
      exact ix_str value slice pins s σ H x y v u Q I rx ry ⟨z, k, c, o.1, ry', hl, e2, q _ ⟨_, rfl, rfl⟩⟩ hs
    · cases e
  · rename_i ts k
    obtain ⟨a, vs, f, e1, ha, ef, r1⟩ := o
    obtain ⟨j, hj, hx⟩ := atI_some e
    obtain ⟨v', f', hv, rv, _⟩ := r1.get hx
    exact ix_list value slice pins s σ H x y v u Q I rx ry ⟨a, vs, k, v', e1, ry', SqL.of ha, atI_of (by rw [← r1.len]; exact hj) hv, q v' ⟨_, rv⟩⟩ hs
  · rename_i ns k
    obtain ⟨a, e1, ha, ef⟩ := o
    rw [Option.map_eq_some_iff] at e
    obtain ⟨n, e2, e3⟩ := e
    subst e3
    exact ix_list value slice pins s σ H x y v u Q I rx ry ⟨a, _, k, .int n, e1, ry', SqL.le g ha, by rw [← atI_map, e2]; rfl, q _ ⟨_, rfl, rfl⟩⟩ hs
  · rename_i kvs i
    split at e
    · rename_i k ek
      obtain ⟨p, ws, f, e1, hp, ef, nd, r1⟩ := o
      obtain ⟨v', f', hv, rv, _⟩ := r1.get e
      have ey := key_of (X := X) ek ry'
      subst ey
      exact ix_dict hu value slice pins s σ H x _ v u Q I rx ry ⟨p, v', e1, hv ▸ DGet.k hp, q v' ⟨_, rv⟩⟩ hs
    · cases e
  · cases e
theorem c_idx (hu : X.A.units + 65 < cLine) (ha : PE X a (xE φ ca X.K W .rd ea)) (hb : PE X b (xE φ ca X.K W .rd eb)) (hm : m ≠ .cd) (hs : PlainIx b) : PE X (.Subscript a b pos) (xE φ ca X.K W m (.idx ea eb)) := by
  refine PE.imp (pe_ix (ix_any (by omega)) ha hb hs) fun σ H Q q => ?_
  obtain ⟨Z, ρ, F, s, q⟩ := q
  unfold ev at q
  rw [fin_ne hm] at q
  obtain ⟨Z1, ρ1, F1, s1, q1⟩ := two s q
  refine ⟨Z1, ρ1, F1, s1, q1.imp fun t ρ' h => fun v H' F' fp s' x' a' => ?_⟩
  obtain ⟨Z2, ρ2, F2, s2, q2⟩ := h v H' F' fp s' x' a'
  refine ⟨Z2, ρ2, F2, s2, q2.imp fun u ρ3 h => fun w H3 F3 fp3 s3 x3 a3 => ?_⟩
  obtain ⟨F4, f, ρ4, t, u', s4, x4, ox, oy, q4⟩ := h w H3 F3 fp3 s3 x3 a3
  split at q4
  · rename_i d
    obtain ⟨fy, oy⟩ := oy
    split at q4
    · rename_i r e
      refine ⟨_, t, d, r, vw_hid, ox, oy.1, e, fun v' ⟨fv, ov⟩ => ?_⟩
      split at q4
      · rename_i hc
        by_cases hrd : m = .rd
        · refine q4 v' H3 F4 [] (s4.unz fun a z => by rw [zp_nil] at z; exact .inl z) ((x4.weak fun z => z).mono fun a h => by simp at h; simp [h]) ?_
          show if m = .rd then _ else _
          rw [if_pos hrd]
          exact ⟨rfl, fv, ov.view vw_unz⟩
        · have hl : r.isLeaf = true := by
            rcases hc with h | h
            · cases m with
              | mv => exact absurd rfl h
              | rd => exact absurd rfl hrd
              | cd => exact absurd rfl hm
            · exact h
          cases r with
          | leaf d' =>
            exact Post.val (e := .idx ea eb) q4 s4 x4 (fun z => z) (ov.1.le vw_unz) (by
              intro tp
              show if m = .rd then _ else _
              rw [if_neg hrd]
              exact tp)
          | _ => cases hl
      · exact q4.elim
    · exact q4.elim
  · exact q4.elim
/-! ### slices -/
/-- a part of a slice: left out, or an expression -/
def xO (φ : Nat → List T → FR) (ca : Nat → Addr) (K : Frag) (W : WX) (e : E) : TO := fun σ H Q =>
  ∃ Z ρ F, St K Z σ H ρ F ∧ SatR ca K W Z σ H F (optR (isNop e) (ev φ .rd e ρ) ρ) fun o ρ' => ∀ H' F' fp, St K (zp Z fp) σ H' ρ' F' → Ext (pureE e || isNop e) H F H' (F' ++ fp) → Q o H'
theorem PO.imp {e : Option Expr} {t t' : TO} (h : PO X e t) (k : ∀ σ H Q, t' σ H Q → t σ H Q) : PO X e t' := ⟨fun pins s σ H Q I q => h.run pins s σ H Q I (k σ H Q q)⟩
theorem c_no : PO X none (xO φ ca X.K W .nop) := by
  refine PO.imp po_none fun σ H Q q => ?_
  obtain ⟨Z, ρ, F, s, q⟩ := q
  exact q H F [] (by rw [zp_nil]; exact s) (by rw [List.append_nil]; exact Ext.refl)
theorem c_some {e : Expr} (hn : isNop ea = false) (h : PE X e (xE φ ca X.K W .rd ea)) : PO X (some e) (xO φ ca X.K W ea) := by
  refine PO.imp (po_some h) fun σ H Q q => ?_
  obtain ⟨Z, ρ, F, s, q⟩ := q
  unfold optR at q
  rw [hn, if_neg Bool.false_ne_true] at q
  refine ⟨Z, ρ, F, s, q.bind.imp fun t ρ1 h1 => fun v H1 F1 f1 s1 x1 a1 => ?_⟩
  obtain ⟨fq, o⟩ := a1.read s1
  split at h1
  · rename_i i e
    have : t = .leaf (.int i) := by
      unfold asInt at e
      split at e
      · cases e; rfl
      · cases e
    subst this
    exact ⟨i, o.1, h1 H1 F1 f1 s1 (x1.weak fun z => by simpa using z)⟩
  · exact h1.elim
theorem pureO {e : E} : (pureE e || isNop e) = true ∨ pureE e = false := by cases e <;> simp [pureE, isNop] <;> cases pureE _ <;> simp
/-- slices of what can be read -/
def rSl (K : Frag) : V → Option Int → Option Int → Hp → VK → Prop := fun x lo hi H Q => rSlA K x lo hi H Q ∨ rSlS x lo hi H Q ∨ rSlL K x lo hi H Q
theorem sl_any : SlR X (rSl X.K) := SlR.or sl_tupA (SlR.or sl_str sl_list)
theorem RpL.cut {K : Frag} {H : Hp} {ds : List D} {vs : List V} (h : RpL K H ds vs) (lo hi : Option Int) : RpL K H ((ds.drop (HT.sIx ds.length 0 lo)).take (HT.sIx ds.length ds.length hi - HT.sIx ds.length 0 lo)) (cutV vs lo hi) := by
  unfold cutV
  rw [← h.len]
  exact (h.drop _).take _
theorem slice_ok {Z : Addr → Prop} {σ : L2.St} {H H2 : Hp} {F F2 f : List Addr} {ρ2 : Rho} {t r : T} {x : V} {lo hi : Option Int} {e : E} {Q : VK} {pf : Bool}
    (s : St X.K (zp Z f) σ H2 ρ2 F2) (xx : Ext pf H F H2 (F2 ++ f)) (hp : pureE e = true → pf = true) (ox : ∃ fq, Ow X.K (vw H2 F2 (zp Z f)) H2 t x fq) (hr : sliceT t lo hi = some r)
    (post : Post X.K Z σ H F m e r ρ2 Q) (ht : ∀ Z σ H ρ F t v f, Tmp X.K Z H F t v f → Air X.K Z σ H ρ F m e t v f) : rSl X.K x lo hi H2 Q := by
  obtain ⟨fx, ox⟩ := ox
  unfold sliceT at hr
  split at hr
  · rename_i xs
    cases hr
    obtain ⟨a, vs, e1, ha, r1⟩ := ox.1
    refine .inl ⟨a, vs, e1, SqT.le hid_le ha, fun hw => ?_, fun hw p n => post.tup s xx hp ((r1.cut lo hi).le vw_unz) n (ht _ _ _ _ _ _ _ _)⟩
    have e0 : (xs.drop (HT.sIx xs.length 0 lo)).take (HT.sIx xs.length xs.length hi - HT.sIx xs.length 0 lo) = xs := by
      rw [r1.len, hw.1, hw.2, List.drop_zero, Nat.sub_zero, ← r1.len, List.take_length]
    rw [e0] at post
    exact post.val s xx hp ⟨a, vs, rfl, SqT.le vw_unz ha, r1.le vw_unz⟩ (ht _ _ _ _ _ _ _ _)
  · rename_i z
    split at hr
    · rename_i hl
      cases hr
      exact .inr (.inl ⟨z, ox.1, hl, post.val s xx hp rfl (ht _ _ _ _ _ _ _ _)⟩)
    · cases hr
  · rename_i ns
    cases hr
    obtain ⟨a, e1, ha, ef⟩ := ox
    refine .inr (.inr ⟨a, _, e1, SqL.le hid_le ha, fun p n => ?_⟩)
    have rr := (RpL.mapInt (K := X.K) (H := vw H2 F2 Z) ns).cut lo hi
    rw [List.length_map, ← List.map_drop, ← List.map_take] at rr
    have post' : Post X.K Z σ H F m e (.lst ((((ns.drop (HT.sIx ns.length 0 lo)).take (HT.sIx ns.length ns.length hi - HT.sIx ns.length 0 lo)).map PyData.int).map T.leaf)) ρ2 Q := by
      rw [List.map_map]
      exact post
    exact post'.lst s xx hp rr n (ht _ _ _ _ _ _ _ _)
  · split at hr
    · rename_i xs q
      cases hr
      obtain ⟨a1, vs1, ex, ha1, r1⟩ := (ox.flat q).list hid_le
      exact .inr (.inr ⟨a1, vs1, ex, SqL.of ha1, fun p n => post.lst s xx hp ((r1.cut lo hi).le vw_unz) n (ht _ _ _ _ _ _ _ _)⟩)
    · cases hr
theorem c_slice {lo hi : Option Expr} {el eh : E} {p2 : Pos} (ha : PE X a (xE φ ca X.K W .rd ea)) (hl : PO X lo (xO φ ca X.K W el)) (hh : PO X hi (xO φ ca X.K W eh)) (hm : m ≠ .cd) : PE X (.Subscript a (.Slice lo hi none p2) pos) (xE φ ca X.K W m (.slice ea el eh)) := by
  refine PE.imp (pe_slice sl_any ha hl hh) fun σ H Q q => ?_
  obtain ⟨Z, ρ, F, s, q⟩ := q
  unfold ev at q
  rw [fin_ne hm] at q
  refine ⟨Z, ρ, F, s, q.bind.imp fun t ρ1 h1 => fun v1 H1 F1 f1 s1 x1 a1 => ?_⟩
  refine ⟨zp Z f1, ρ1, F1, s1, h1.bind.rebase x1 fun l ρ2 h2 => fun H2 F2 f2 s2 x2 => ?_⟩
  have xx := x1.trans x2
  have s2' := s2
  rw [zp_zp] at s2'
  refine ⟨zp Z (f1 ++ f2), ρ2, F2, s2', h2.bind.rebase xx fun h ρ3 h3 => fun H3 F3 f3 s3 x3 => ?_⟩
  have xxx := xx.trans x3
  have y23 := x2.trans x3
  rw [zp_zp] at s3
  cases q : opnd ea t ρ3 ((pureE el || isNop el) && (pureE eh || isNop eh)) with
  | none => rw [q] at h3; exact h3.elim
  | some x =>
    rw [q] at h3
    obtain ⟨r, hr, post⟩ := R.of_some h3
    refine slice_ok (e := .slice ea el eh) s3 xxx (fun z => by cases z) ?_ hr post fun _ _ _ _ _ _ _ _ h => h
    have tmp : Tmp X.K Z H1 F1 t v1 f1 → ∃ fq, Ow X.K (vw H3 F3 (zp Z (f1 ++ f2 ++ f3))) H3 t v1 fq := fun q => by
      have o := (q.2.2.step s1 y23)
      rw [zp_zp, ← List.append_assoc] at o
      exact ⟨_, o⟩
    cases ea with
    | var k' =>
      obtain ⟨e1, e2, e3⟩ := a1
      obtain ⟨v', f', e4, o, _⟩ := s3.get (show getSlot ρ3 k' = some x from q)
      rw [e2] at e4
      cases e4
      exact ⟨f', o⟩
    | idx y z =>
      obtain ⟨e1, fq, o⟩ := a1
      subst e1
      unfold opnd at q
      simp only at q
      split at q
      · rename_i hc
        cases q
        rw [List.nil_append]
        rcases hc with hc | hc
        · cases t with
          | leaf d =>
            refine ⟨[], ?_, rfl⟩
            exact o.1.le y23.view
          | _ => cases hc
        · refine ⟨fq, o.le y23.view fun a _ u e => y23.pure hc a u e⟩
      · cases q
    | _ =>
      have q' : some t = some x := q
      cases q'
      exact tmp a1
theorem c_rev {k : Nat} {p1 p2 p3 : Pos} (ha : PE X a (xE φ ca X.K W .rd ea)) (hm : m ≠ .cd) : PE X (.Subscript a (.Slice none none (some (.UnaryOp .USub (.Constant (.int 1) k p1) p2)) p3) pos) (xE φ ca X.K W m (.rev ea)) := by
  refine PE.imp (pe_revL ha) fun σ H Q q => ?_
  obtain ⟨Z, ρ, F, s, q⟩ := q
  unfold ev at q
  rw [fin_ne hm] at q
  refine ⟨Z, ρ, F, s, q.bind.imp fun t ρ1 h1 => fun v1 H1 F1 f1 s1 x1 a1 => ?_⟩
  obtain ⟨fq, o⟩ := a1.read s1
  split at h1
  · rename_i xs q
    obtain ⟨a1, vs1, ex, ha1, r1⟩ := (o.flat q).list hid_le
    exact ⟨a1, vs1, ex, SqL.of ha1, fun p n => Post.lst (e := .rev ea) h1 s1 x1 (fun z => by cases z) (r1.reverse.le vw_unz) n⟩
  · exact h1.elim
/-! ### built-in functions of one argument -/
theorem minL_mem : ∀ (n : Int) (ns : List Int), minL n ns ∈ n :: ns ∧ ∀ y ∈ n :: ns, minL n ns ≤ y
  | n, [] => by simp [minL]
  | n, m :: r => by
    unfold minL
    split
    · obtain ⟨h1, h2⟩ := minL_mem m r
      refine ⟨by simp at h1 ⊢; rcases h1 with h | h <;> simp [h], fun y hy => ?_⟩
      have := h2 m (by simp)
      rcases List.mem_cons.mp hy with rfl | hy
      · omega
      · exact h2 y hy
    · obtain ⟨h1, h2⟩ := minL_mem n r
      refine ⟨by simp at h1 ⊢; rcases h1 with h | h <;> simp [h], fun y hy => ?_⟩
      have := h2 n (by simp)
      rcases List.mem_cons.mp hy with rfl | hy
      · exact this
      · rcases List.mem_cons.mp hy with rfl | hy
        · omega
        · exact h2 y (by simp [hy])
theorem maxL_mem : ∀ (n : Int) (ns : List Int), maxL n ns ∈ n :: ns ∧ ∀ y ∈ n :: ns, y ≤ maxL n ns
  | n, [] => by simp [maxL]
  | n, m :: r => by
    unfold maxL
    split
    · obtain ⟨h1, h2⟩ := maxL_mem m r
      refine ⟨by simp at h1 ⊢; rcases h1 with h | h <;> simp [h], fun y hy => ?_⟩
      have := h2 m (by simp)
      rcases List.mem_cons.mp hy with rfl | hy
      · omega
      · exact h2 y hy
    · obtain ⟨h1, h2⟩ := maxL_mem n r
      refine ⟨by simp at h1 ⊢; rcases h1 with h | h <;> simp [h], fun y hy => ?_⟩
      have := h2 n (by simp)
      rcases List.mem_cons.mp hy with rfl | hy
      · exact this
      · rcases List.mem_cons.mp hy with rfl | hy
        · omega
        · exact h2 y (by simp [hy])
theorem insSorted_perm (n : Int) : ∀ ns : List Int, (insSorted n ns).Perm (n :: ns)
  | [] => List.Perm.refl _
  | m :: r => by
    unfold insSorted
    split
    · exact List.Perm.refl _
    · exact ((insSorted_perm n r).cons m).trans (List.Perm.swap n m r)
theorem insSorted_sorted (n : Int) : ∀ ns : List Int, ns.Pairwise (· ≤ ·) → (insSorted n ns).Pairwise (· ≤ ·)
  | [], _ => by simp [insSorted]
  | m :: r, h => by
    unfold insSorted
    obtain ⟨h1, h2⟩ := List.pairwise_cons.mp h
    split
    · rename_i hc
      refine List.pairwise_cons.mpr ⟨fun y hy => ?_, h⟩
      rcases List.mem_cons.mp hy with rfl | hy
      · exact hc
      · exact Int.le_trans hc (h1 y hy)
    · rename_i hc
      refine List.pairwise_cons.mpr ⟨fun y hy => ?_, insSorted_sorted n r h2⟩
      rcases List.mem_cons.mp ((insSorted_perm n r).mem_iff.mp hy) with rfl | hy
      · omega
      · exact h1 y hy
theorem sortInts_perm : ∀ ns : List Int, (sortInts ns).Perm ns
  | [] => List.Perm.refl _
  | n :: r => (insSorted_perm n _).trans ((sortInts_perm r).cons n)
theorem sortInts_sorted : ∀ ns : List Int, (sortInts ns).Pairwise (· ≤ ·)
  | [] => List.Pairwise.nil
  | n :: r => insSorted_sorted n _ (sortInts_sorted r)
theorem sorted_one : ∀ {xs ys : List Int}, xs.Perm ys → xs.Pairwise (· ≤ ·) → ys.Pairwise (· ≤ ·) → xs = ys
  | [], ys, p, _, _ => p.nil_eq
  | x :: xs, [], p, _, _ => by simpa using p.length_eq
  | x :: xs, y :: ys, p, h1, h2 => by
    obtain ⟨a1, a2⟩ := List.pairwise_cons.mp h1
    obtain ⟨b1, b2⟩ := List.pairwise_cons.mp h2
    have e : x = y := by
      have hx : x ∈ y :: ys := p.mem_iff.mp (by simp)
      have hy : y ∈ x :: xs := p.mem_iff.mpr (by simp)
      rcases List.mem_cons.mp hx with h | h
      · exact h
      · rcases List.mem_cons.mp hy with h' | h'
        · exact h'.symm
        · exact Int.le_antisymm (a1 y h') (b1 x h)
    subst e
    rw [sorted_one (List.Perm.cons_inv p) a2 b2]
def f1Name : F1 → Str
  | .len => "len" | .int => "int" | .str => "str" | .abs => "abs" | .tuple => "tuple" | .list => "list" | .sum => "sum" | .min => "min" | .max => "max" | .all => "all" | .any => "any" | .sorted => "sorted"
/-- the value that a built-in name stands for -/
def f1Val : F1 → Value
  | .len => .builtin "len" | .int => .type "int" | .str => .type "str" | .abs => .builtin "abs" | .tuple => .type "tuple" | .list => .type "list" | .sum => .builtin "sum" | .min => .builtin "min" | .max => .builtin "max"
  | .all => .builtin "all" | .any => .builtin "any" | .sorted => .builtin "sorted"
theorem f1_ok (hc : X.calm = true) {f : F1} {Z : Addr → Prop} {σ : L2.St} {H H2 : Hp} {F F2 g : List Addr} {ρ2 : Rho} {t r : T} {e : E} {pf : Bool} {Q : VK} {x : V}
    (s : St X.K (zp Z g) σ H2 ρ2 F2) (xx : Ext pf H F H2 (F2 ++ g)) (hp : pureE e = true → pf = true) (ox : ∃ fq, Ow X.K (vw H2 F2 (zp Z g)) H2 t x fq) (hr : fun1 f t = some r)
    (post : Post X.K Z σ H F m e r ρ2 Q) (ht : ∀ Z σ H ρ F t v f, Tmp X.K Z H F t v f → Air X.K Z σ H ρ F m e t v f) :
    ∃ rule : List V → Hp → VK → Prop, CallR X (f1Val f) rule ∧ rule [x] H2 Q := by
  obtain ⟨fx, ox⟩ := ox
  have val : ∀ {d : D} {v : V}, r = .leaf d → Rp X.K (vw H2 F2 Z) d v → Q v H2 := fun e1 rv => by subst e1; exact post.val s xx hp rv (ht _ _ _ _ _ _ _ _)
  have lst : ∀ {ds : List D} {vs : List V} {p : Addr}, r = .lst (ds.map .leaf) → RpL X.K (vw H2 F2 Z) ds vs → H2 p = none → Q (.ref p) (upd H2 p (.lst vs)) := fun e1 rv n => by subst e1; exact post.lst s xx hp rv n (ht _ _ _ _ _ _ _ _)
  have tup : ∀ {ds : List D} {vs : List V} {p : Addr}, r = .leaf (.tuple ds) → RpL X.K (vw H2 F2 Z) ds vs → H2 p = none → Q (.ref p) (upd H2 p (.tup vs)) := fun e1 rv n => by subst e1; exact post.tup s xx hp rv n (ht _ _ _ _ _ _ _ _)
  cases f with
  | len =>
    unfold fun1 at hr
    simp only [Option.map_eq_some_iff] at hr
    obtain ⟨n, hn, e1⟩ := hr
    have hq : Q (.int n) H2 := val e1.symm rfl
    cases t with
    | leaf d =>
      cases d with
      | str z =>
        simp only [T.count] at hn
        split at hn
        · rename_i hl
          cases hn
          exact ⟨_, call_len, x, z.length, rfl, by rw [show x = .str z from ox.1]; exact ⟨hl, rfl⟩, hq⟩
        · cases hn
      | list xs =>
        cases hn
        obtain ⟨a, vs, e1, ha, r1⟩ := ox.1
        exact ⟨_, call_len, x, _, rfl, by rw [e1]; exact .inl ⟨vs, SqL.of (hid_le _ _ ha), r1.len⟩, hq⟩
      | tuple xs =>
        cases hn
        obtain ⟨a, vs, e1, ha, r1⟩ := ox.1
        exact ⟨_, call_len, x, _, rfl, by rw [e1]; exact .inr ⟨vs, SqT.le hid_le ha, r1.len⟩, hq⟩
      | _ => cases hn
    | lst ts =>
      cases hn
      obtain ⟨a, vs, f, e1, ha, ef, r1⟩ := ox
      exact ⟨_, call_len, x, _, rfl, by rw [e1]; exact .inl ⟨vs, SqL.of ha, r1.len⟩, hq⟩
    | dct kvs =>
      cases hn
      obtain ⟨a, vs, f, e1, ha, ef, nd, r1⟩ := ox
      exact ⟨_, call_lenD, a, vs, by rw [e1], ha, by rw [← r1.len]; exact hq⟩
    | scr ns =>
      cases hn
      obtain ⟨a, e1, ha, ef⟩ := ox
      exact ⟨_, call_len, x, _, rfl, by rw [e1]; exact .inl ⟨_, SqL.le hid_le ha, by simp⟩, hq⟩
    | rng _ _ => cases hn
    | hole _ => cases hn
    | xcp _ _ _ => cases hn
  | int =>
    unfold fun1 at hr
    simp only at hr
    split at hr
    · rename_i i
      cases hr
      exact ⟨_, call_int1, .inl ⟨i, by rw [show x = .int i from ox.1], val rfl rfl⟩⟩
    · rename_i k
      cases hr
      exact ⟨_, call_int1, .inr ⟨k, by rw [show x = .bl k from ox.1], val rfl rfl⟩⟩
    · cases hr
  | str =>
    unfold fun1 at hr
    simp only at hr
    split at hr
    · rename_i i
      split at hr
      · rename_i hl
        cases hr
        exact ⟨_, call_str_int, i, by rw [show x = .int i from ox.1], hl, val rfl rfl⟩
      · cases hr
    · cases hr
  | abs =>
    unfold fun1 at hr
    simp only at hr
    split at hr
    · rename_i i
      cases hr
      exact ⟨_, call_abs, i, by rw [show x = .int i from ox.1], val rfl rfl⟩
    · cases hr
  | tuple =>
    unfold fun1 at hr
    simp only at hr
    split at hr
    · rename_i xs
      cases hr
      obtain ⟨a, vs, e1, ha, r1⟩ := ox.1
      exact ⟨_, call_tupleT, a, vs, by rw [e1], SqT.le hid_le ha, val rfl ⟨a, vs, rfl, SqT.le vw_unz ha, r1.le vw_unz⟩⟩
    · split at hr
      · rename_i xs q
        cases hr
        obtain ⟨a, vs, e1, ha, r1⟩ := (ox.flat q).list hid_le
        exact ⟨_, call_tuple_of, a, vs, by rw [e1], .inl ⟨SqL.of ha, fun p n => tup rfl (r1.le vw_unz) n⟩⟩
      · cases hr
  | list =>
    unfold fun1 at hr
    simp only at hr
    split at hr
    · rename_i xs
      cases hr
      obtain ⟨a, vs, e1, ha, r1⟩ := ox.1
      exact ⟨_, call_list_of, a, vs, by rw [e1], .inr (SqT.le hid_le ha), fun p n => lst rfl (r1.le vw_unz) n⟩
    · split at hr
      · rename_i xs q
        cases hr
        obtain ⟨a, vs, e1, ha, r1⟩ := (ox.flat q).list hid_le
        exact ⟨_, call_list_of, a, vs, by rw [e1], .inl (SqL.of ha), fun p n => lst rfl (r1.le vw_unz) n⟩
      · cases hr
  | sum =>
    unfold fun1 at hr
    simp only at hr
    split at hr
    · rename_i xs q
      split at hr
      · rename_i ns qn
        cases hr
        obtain ⟨a, vs, e1, ha, r1⟩ := (ox.flat q).list hid_le
        obtain ⟨e2, e3⟩ := r1.ints qn
        subst e2
        exact ⟨_, cr_sum hc, a, ns, by rw [e1], SqL.of ha, val rfl rfl⟩
      · cases hr
    · cases hr
  | min =>
    unfold fun1 at hr
    simp only at hr
    split at hr
    · rename_i xs q
      split at hr
      · rename_i n ns qn
        cases hr
        obtain ⟨a, vs, e1, ha, r1⟩ := (ox.flat q).list hid_le
        obtain ⟨e2, e3⟩ := r1.ints qn
        subst e2
        refine ⟨_, cr_min hc, a, n :: ns, by rw [e1], SqL.of ha, by simp, fun k hk hle => ?_⟩
        obtain ⟨h1, h2⟩ := minL_mem n ns
        have : k = minL n ns := Int.le_antisymm (hle _ h1) (h2 _ hk)
        exact val rfl (by rw [this]; rfl)
      · cases hr
    · cases hr
  | max =>
    unfold fun1 at hr
    simp only at hr
    split at hr
    · rename_i xs q
      split at hr
      · rename_i n ns qn
        cases hr
        obtain ⟨a, vs, e1, ha, r1⟩ := (ox.flat q).list hid_le
        obtain ⟨e2, e3⟩ := r1.ints qn
        subst e2
        refine ⟨_, cr_max hc, a, n :: ns, by rw [e1], SqL.of ha, by simp, fun k hk hle => ?_⟩
        obtain ⟨h1, h2⟩ := maxL_mem n ns
        have : k = maxL n ns := Int.le_antisymm (h2 _ hk) (hle _ h1)
        exact val rfl (by rw [this]; rfl)
      · cases hr
    · cases hr
  | all =>
    unfold fun1 at hr
    simp only at hr
    split at hr
    · rename_i xs q
      split at hr
      · rename_i ns qn
        cases hr
        obtain ⟨a, vs, e1, ha, r1⟩ := (ox.flat q).list hid_le
        obtain ⟨e2, e3⟩ := r1.bls qn
        subst e2
        exact ⟨_, cr_all hc, a, ns, by rw [e1], SqL.of ha, val rfl rfl⟩
      · cases hr
    · cases hr
  | any =>
    unfold fun1 at hr
    simp only at hr
    split at hr
    · rename_i xs q
      split at hr
      · rename_i ns qn
        cases hr
        obtain ⟨a, vs, e1, ha, r1⟩ := (ox.flat q).list hid_le
        obtain ⟨e2, e3⟩ := r1.bls qn
        subst e2
        exact ⟨_, cr_any hc, a, ns, by rw [e1], SqL.of ha, val rfl rfl⟩
      · cases hr
    · cases hr
  | sorted =>
    unfold fun1 at hr
    simp only at hr
    split at hr
    · rename_i xs q
      obtain ⟨a, vs, e1, ha, r1⟩ := (ox.flat q).list hid_le
      split at hr
      · rename_i ns qn
        cases hr
        obtain ⟨e2, e3⟩ := r1.ints qn
        subst e2
        refine ⟨_, cr_sortedI, a, ns, by rw [e1], SqL.of ha, fun ns' p pm sr n => ?_⟩
        have : ns' = sortInts ns := sorted_one (pm.trans (sortInts_perm ns).symm) sr (sortInts_sorted ns)
        subst this
        refine lst (ds := (sortInts ns).map .int) (by rw [List.map_map]; rfl) (RpL.mapInt _) n
      · split at hr
        · rename_i nss qn
          split at hr
          · rename_i hok
            cases hr
            obtain ⟨d, hd, hok⟩ := okTups_ok hok
            have e2 := tupsOf_eq qn
            subst e2
            refine ⟨_, cr_pzSort (d := d) (B := 1000) hd, a, vs, by rw [e1], SqL.of ha, fun x hx => ?_, fun ys p pm sr n => ?_⟩
            · obtain ⟨ns, hn, rx⟩ := r1.mem_tup hx
              obtain ⟨k1, k2⟩ := hok ns hn
              exact ⟨ns, rx.tupI hid_le, k1, k2⟩
            · obtain ⟨mss, k1, k2⟩ := r1.perm_tup pm
              have k3 : mss.Pairwise (fun n m => TS.code 1000 n ≤ TS.code 1000 m) := sorted_tup hid_le k2 sr
              have k4 : mss = sortT nss := sortT_one hok (k1) k3
              subst k4
              exact lst rfl (k2.le vw_unz) n
          · cases hr
        · cases hr
    · cases hr
theorem f1_type (f : F1) : (∃ id, f1Val f = .builtin id) ∨ ∃ T, f1Val f = .type T := by cases f <;> simp [f1Val]
theorem c_f1 {f : F1} {p : Pos} (hc : X.calm = true) (hg : Gl X (f1Name f)) (hm' : X.mg (f1Name f) = none) (ha : PE X a (xE φ ca X.K W .rd ea)) (hm : m ≠ .cd) (hs : starEach [a] X.env = (false, eval a X.env) :: starEach [] X.env) :
    PE X (.Call (.Name (f1Name f) p) [a] [] pos) (xE φ ca X.K W m (.f1 f ea)) := by
  have boot : bootBuiltins (f1Name f) = some (f1Val f) := by cases f <;> decide +kernel
  have nn : f1Name f ≠ "__name__" := by cases f <;> decide +kernel
  have dbg : (f1Name f == ("__debug__" : Str)) = false := by cases f <;> decide +kernel
  let rule : List V → Hp → VK → Prop := fun xs H Q => ∃ r : List V → Hp → VK → Prop, CallR X (f1Val f) r ∧ r xs H Q
  have hrule : CallR X (f1Val f) rule := fun pins s σ H xs us Q I r h => by
    obtain ⟨r', h1, h2⟩ := h
    exact h1 pins s σ H xs us Q I r h2
  have key : PE X (.Call (.Name (f1Name f) p) [a] [] pos) (tCB rule (tCons (xE φ ca X.K W .rd ea) tNil)) := by
    rcases f1_type f with ⟨id, e⟩ | ⟨T, e⟩
    · rw [e] at boot hrule
      exact pe_callB hrule hg hm' boot (pa_cons ha pa_nil hs) nn dbg hs
    · rw [e] at boot hrule
      exact pe_callTy hrule hg hm' boot (pa_cons ha pa_nil hs) nn dbg hs
  refine PE.imp key fun σ H Q q => ?_
  obtain ⟨Z, ρ, F, s, q⟩ := q
  unfold ev at q
  rw [fin_ne hm] at q
  refine ⟨Z, ρ, F, s, q.bind.imp fun t ρ1 h1 => fun v1 H1 F1 f1 s1 x1 a1 => ?_⟩
  obtain ⟨r, hr, post⟩ := R.of_some h1
  exact f1_ok (e := .f1 f ea) hc s1 x1 (fun z => z) (a1.read s1) hr post fun _ _ _ _ _ _ _ _ h => h
def f2Name : F2 → Str
  | .min => "min" | .max => "max"
def f2Id : F2 → String
  | .min => "min" | .max => "max"
theorem c_f2 {f : F2} {p : Pos} (hc : X.calm = true) (hg : Gl X (f2Name f)) (hm' : X.mg (f2Name f) = none) (ha : PE X a (xE φ ca X.K W .rd ea)) (hb : PE X b (xE φ ca X.K W .rd eb)) (hm : m ≠ .cd)
    (hs : starEach [a, b] X.env = (false, eval a X.env) :: starEach [b] X.env) (hs2 : starEach [b] X.env = (false, eval b X.env) :: starEach [] X.env) :
    PE X (.Call (.Name (f2Name f) p) [a, b] [] pos) (xE φ ca X.K W m (.f2 f ea eb)) := by
  have boot : bootBuiltins (f2Name f) = some (.builtin (f2Id f)) := by cases f <;> decide +kernel
  have nn : f2Name f ≠ "__name__" := by cases f <;> decide +kernel
  have dbg : (f2Name f == ("__debug__" : Str)) = false := by cases f <;> decide +kernel
  have rule : CallR X (.builtin (f2Id f)) (fun xs H Q => ∃ i j, xs = [.int i, .int j] ∧ Q (.int (match f with | .min => if j < i then j else i | .max => if j > i then j else i)) H) := by
    cases f with
    | min => exact call_min2 hc
    | max => exact call_max2 hc
  have hpl : (backTo pos (starEach [b] X.env)).any (·.1) = false := by rw [hs2]; rfl
  refine PE.imp (pe_callB rule hg hm' boot (pa_cons ha (pa_cons hb pa_nil hs2) hs) nn dbg hs hpl) fun σ H Q q => ?_
  obtain ⟨Z, ρ, F, s, q⟩ := q
  unfold ev at q
  rw [fin_ne hm] at q
  refine ⟨Z, ρ, F, s, q.bind.imp fun t ρ1 h1 => fun v1 H1 F1 f1 s1 x1 a1 => ?_⟩
  refine ⟨zp Z f1, ρ1, F1, s1, h1.bind.rebase x1 fun u ρ2 h2 => fun v2 H2 F2 f2 s2 x2 a2 => ?_⟩
  obtain ⟨fq1, o1⟩ := a1.read s1
  obtain ⟨fq2, o2⟩ := a2.read s2
  obtain ⟨r, hr, post⟩ := R.of_some h2
  unfold fun2 at hr
  split at hr
  · rename_i i j
    have e1 : v1 = .int i := o1.1
    have e2 : v2 = .int j := o2.1
    subst e1 e2
    rw [zp_zp] at s2
    refine ⟨i, j, rfl, ?_⟩
    cases f with
    | min =>
      cases hr
      exact Post.val (e := .f2 .min ea eb) post s2 (x1.trans x2) (fun z => by cases z) rfl
    | max =>
      cases hr
      exact Post.val (e := .f2 .max ea eb) post s2 (x1.trans x2) (fun z => by cases z) rfl
  · cases hr
/-! ### isinstance -/
def tyName : Ty → String
  | .int => "int" | .bool => "bool" | .str => "str" | .tuple => "tuple" | .list => "list"
def kdName : Kd → String
  | .non => "NoneType" | .bool => "bool" | .int => "int" | .str => "str" | .list => "list" | .tuple => "tuple" | .dict => "dict"
theorem kit_kd (k : Kd) (y : Ty) : kitB (kdName k) (tyName y) = some (isKd k y) := by cases k <;> cases y <;> decide +kernel
theorem kd_ok {G H : Hp} {t : T} {k : Kd} {v : V} {fq : List Addr} (g : Le G H) (o : Ow X.K G H t v fq) (e : kdOf t = some k) : TyX X.K H v (.type (kdName k)) := by
  have tupTy : ∀ {a : Addr} {vs : List V}, SqT X.K G a vs → TyX X.K H (.ref a) (.type "tuple") := fun {a vs} h => by
    rcases h with (h | ⟨o, h⟩) | ⟨o, its, n, h1, h2, _⟩
    · exact .base (.tup (g _ _ h))
    · exact .fTuple (g _ _ h)
    · exact .kTuple h1 h2
  cases t with
  | leaf d =>
    have r := o.1
    cases d with
    | none => cases e; rw [show v = .non from r]; exact .base .non
    | bool b => cases e; rw [show v = .bl b from r]; exact .base (.bl b)
    | int i => cases e; rw [show v = .int i from r]; exact .base (.int i)
    | str x => cases e; rw [show v = .str x from r]; exact .base (.str x)
    | list xs =>
      cases e
      obtain ⟨a, vs, e1, ha, r1⟩ := r
      subst e1
      exact .base (.lst (g _ _ ha))
    | tuple xs =>
      cases e
      obtain ⟨a, vs, e1, ha, r1⟩ := r
      subst e1
      exact tupTy ha
    | dict _ => exact r.elim
  | lst ts =>
    cases e
    obtain ⟨a, vs, f, e1, ha, ef, r1⟩ := o
    subst e1
    exact .base (.lst ha)
  | dct ts =>
    cases e
    obtain ⟨a, vs, f, e1, ha, ef, nd, r1⟩ := o
    subst e1
    exact .base (.dK ha)
  | rng _ _ => cases e
  | scr _ => cases e
  | hole _ => cases e
  | xcp _ _ _ => cases e
theorem isTy_ok {G H : Hp} {t : T} {y : Ty} {k : Bool} {v : V} {fq : List Addr} (g : Le G H) (o : Ow X.K G H t v fq) (e : isTy t y = some k) : ∃ w, TyX X.K H v w ∧ PySem.W.kitOne X.K w (.type (tyName y)) = some k := by
  unfold isTy at e
  split at e
  · rename_i kd e'
    cases e
    exact ⟨_, kd_ok g o e', kit_ty (kit_kd kd y)⟩
  · cases e
theorem isi_core {y : Ty} {p p2 : Pos} (hg : Gl X "isinstance") (hm' : X.mg "isinstance" = none) (hg2 : Gl X (tyName y)) (hm2 : X.mg (tyName y) = none) (ha : PE X a (xE φ ca X.K W .rd ea))
    (hs : starEach [a, .Name (tyName y) p2] X.env = (false, eval a X.env) :: starEach [.Name (tyName y) p2] X.env) :
    PE X (.Call (.Name "isinstance" p) [a, .Name (tyName y) p2] [] pos) fun σ H Q => xE φ ca X.K W .rd ea σ H fun v H1 => ∃ G t k fq, Le G H1 ∧ Ow X.K G H1 t v fq ∧ isTy t y = some k ∧ Q (.bl k) H1 := by
  have hn : PE X (.Name (tyName y) p2) (L2.tC (.ty (tyName y))) := pe_bltn hg2 hm2 (u := .type (tyName y)) (by cases y <;> decide +kernel) rfl (by cases y <;> decide +kernel) (by cases y <;> decide +kernel)
  refine PE.imp (pe_callB call_isi hg hm' (by decide +kernel) (pa_cons ha (pa_cons hn pa_nil rfl) hs) (by decide +kernel) (by decide +kernel) hs) fun σ H Q q => ?_
  obtain ⟨Z, ρ, F, s, q⟩ := q
  refine ⟨Z, ρ, F, s, q.imp fun t ρ1 h1 => fun v1 H1 F1 f1 s1 x1 a1 => ?_⟩
  obtain ⟨G, t', k, fq, g, o, e, h⟩ := h1 v1 H1 F1 f1 s1 x1 a1
  obtain ⟨w', hw, hk⟩ := isTy_ok g o e
  exact ⟨v1, .ty (tyName y), w', .type (tyName y), k, rfl, .ty _, hw, hk, h⟩
theorem c_isi {y : Ty} {p p2 : Pos} (hg : Gl X "isinstance") (hm' : X.mg "isinstance" = none) (hg2 : Gl X (tyName y)) (hm2 : X.mg (tyName y) = none) (ha : PE X a (xE φ ca X.K W .rd ea)) (hm : m ≠ .cd)
    (hs : starEach [a, .Name (tyName y) p2] X.env = (false, eval a X.env) :: starEach [.Name (tyName y) p2] X.env) :
    PE X (.Call (.Name "isinstance" p) [a, .Name (tyName y) p2] [] pos) (xE φ ca X.K W m (.isi ea y)) := by
  refine PE.imp (isi_core hg hm' hg2 hm2 ha hs) fun σ H Q q => ?_
  obtain ⟨Z, ρ, F, s, q⟩ := q
  unfold ev at q
  refine ⟨Z, ρ, F, s, q.bind.imp fun t ρ1 h1 => fun v1 H1 F1 f1 s1 x1 a1 => ?_⟩
  obtain ⟨fq, o⟩ := a1.read s1
  split at h1
  · rename_i k e
    exact ⟨_, t, k, fq, vw_hid, o, e, Post.val (e := .isi ea y) h1 s1 x1 (fun z => by cases z) rfl⟩
  · exact h1.elim
theorem c_isiT {y : Ty} {p p2 : Pos} (hg : Gl X "isinstance") (hm' : X.mg "isinstance" = none) (hg2 : Gl X (tyName y)) (hm2 : X.mg (tyName y) = none) (ha : PE X a (xE φ ca X.K W .rd ea))
    (hs : starEach [a, .Name (tyName y) p2] X.env = (false, eval a X.env) :: starEach [.Name (tyName y) p2] X.env) :
    PT X (.Call (.Name "isinstance" p) [a, .Name (tyName y) p2] [] pos) (xC φ ca X.K W (.isi ea y)) := by
  refine PT.imp (pt_val (isi_core hg hm' hg2 hm2 ha hs)) fun σ H Q q => ?_
  obtain ⟨Z, ρ, F, s, q⟩ := q
  unfold ev at q
  refine ⟨Z, ρ, F, s, q.bind.imp fun t ρ1 h1 => fun v1 H1 F1 f1 s1 x1 a1 => ?_⟩
  obtain ⟨fq, o⟩ := a1.read s1
  split at h1
  · rename_i k e
    exact ⟨_, t, k, fq, vw_hid, o, e, k, rfl, PostC.of h1 s1 x1⟩
  · exact h1.elim
end
end Pz
/-! P2g: methods of data. -/
namespace Pz
open PySem PySem.Spec PyProof.Rows L2
section
variable {X : Cx} {φ : Nat → List T → FR} {ca : Nat → Addr} {W : WX} {m : M} {a b c : Expr} {ea eb ec : E} {pos apos : Pos}
def mtName : Mt → Str
  | .split => "split" | .join => "join" | .startswith => "startswith" | .upper => "upper" | .lower => "lower" | .lindex => "index"
def mtTy : Mt → String
  | .lindex => "list" | _ => "str"
def mtId : Mt → String
  | .split => "str.split" | .join => "str.join" | .startswith => "str.startswith" | .upper => "str.upper" | .lower => "str.lower" | .lindex => "list.index"
theorem mt_facts (mt : Mt) : PlainAttrs (mtTy mt) ∧ Slot (mtTy mt) (mtName mt) (mtId mt) ∧ typeOf (.builtin (mtId mt)) = pure (.type "method_descriptor") := by
  cases mt with
  | split => exact ⟨PySem.F.plainAttrs_str, PySem.F.slot_str_split, PySem.F.type_str_split⟩
  | join => exact ⟨PySem.F.plainAttrs_str, PySem.F.slot_str_join, PySem.F.type_str_join⟩
  | startswith => exact ⟨PySem.F.plainAttrs_str, PySem.F.slot_str_startswith, PySem.F.type_str_startswith⟩
  | upper => exact ⟨PySem.F.plainAttrs_str, PySem.F.slot_str_upper, PySem.F.type_str_upper⟩
  | lower => exact ⟨PySem.F.plainAttrs_str, PySem.F.slot_str_lower, PySem.F.type_str_lower⟩
  | lindex => exact ⟨PySem.F.plainAttrs_list, PySem.F.slot_list_index, PySem.F.type_list_index⟩
/-- some rule of the method serves -/
def rMt (X : Cx) (mt : Mt) : V → List V → Hp → VK → Prop := fun x xs H Q => ∃ r : V → List V → Hp → VK → Prop, MtR X (mtId mt) r ∧ r x xs H Q
theorem mt_any (mt : Mt) : MtR X (mtId mt) (rMt X mt) := fun pins s σ H x xs v us Q I rx rs h => by
  obtain ⟨r, h1, h2⟩ := h
  exact h1 pins s σ H x xs v us Q I rx rs h2
theorem findEq_ok {x : D} : ∀ {xs : List D} {n : Nat}, findEq x xs = some n → ∃ z, xs[n]? = some z ∧ PyData.eqv z x = true ∧ ∀ (m : Nat) (z' : PyData), m < n → xs[m]? = some z' → PyData.eqv z' x = false
  | [], _, h => by cases h
  | y :: r, n, h => by
    unfold findEq at h
    split at h
    · rename_i e
      cases h
      exact ⟨y, rfl, e, fun m _ hm => absurd hm (Nat.not_lt_zero m)⟩
    · rename_i e
      rw [Option.map_eq_some_iff] at h
      obtain ⟨k, hk, e2⟩ := h
      subst e2
      obtain ⟨z, h1, h2, h3⟩ := findEq_ok hk
      refine ⟨z, by simpa using h1, h2, fun m z' hm hz => ?_⟩
      cases m with
      | zero =>
        simp at hz
        subst hz
        simpa using e
      | succ m => exact h3 m z' (by omega) (by simpa using hz)
theorem findStr_ok {x : Str} : ∀ {xs : List Str} {n : Nat}, findStr x xs = some n → xs[n]? = some x ∧ ∀ m, m < n → xs[m]? ≠ some x
  | [], _, h => by cases h
  | y :: r, n, h => by
    unfold findStr at h
    split at h
    · rename_i e
      cases h
      subst e
      exact ⟨rfl, fun m hm => absurd hm (Nat.not_lt_zero m)⟩
    · rename_i e
      rw [Option.map_eq_some_iff] at h
      obtain ⟨k, hk, e2⟩ := h
      subst e2
      obtain ⟨h1, h3⟩ := findStr_ok hk
      refine ⟨by simpa using h1, fun m hm => ?_⟩
      cases m with
      | zero => simpa using e
      | succ m =>
        have := h3 m (by omega)
        simpa using this
/-- the items of what can be read -/
theorem seqD_ok {G H : Hp} {t : T} {v : V} {fq : List Addr} {ds : List D} (g : Le G H) (e : seqD t = some ds) (o : Ow X.K G H t v fq) :
    ∃ a vs, v = .ref a ∧ (SqL X.K H a vs ∨ SqT X.K H a vs) ∧ RpL X.K G ds vs := by
  unfold seqD at e
  split at e
  · cases e
    obtain ⟨a, vs, e1, ha, r⟩ := o.1
    exact ⟨a, vs, e1, .inr (SqT.le g ha), r⟩
  · split at e
    · rename_i xs q
      cases e
      obtain ⟨a, vs, e1, ha, r⟩ := (o.flat q).list g
      exact ⟨a, vs, e1, .inl (SqL.of ha), r⟩
    · cases e
theorem mt_ok (hu : X.A.units + 65 < cLine) {mt : Mt} {Z : Addr → Prop} {σ : L2.St} {H H2 : Hp} {F F2 g : List Addr} {ρ2 : Rho} {t r : T} {ts : List T} {e : E} {pf : Bool} {Q : VK} {x : V} {xs : List V}
    (s : St X.K (zp Z g) σ H2 ρ2 F2) (xx : Ext pf H F H2 (F2 ++ g)) (hp : pureE e = true → pf = true) (ox : ∃ fq, Ow X.K (vw H2 F2 (zp Z g)) H2 t x fq) (os : ∃ fq, OwL X.K (vw H2 F2 (zp Z g)) H2 ts xs fq) (hr : mtOp mt t ts = some r)
    (post : Post X.K Z σ H F m e r ρ2 Q) (ht : ∀ Z σ H ρ F t v f, Tmp X.K Z H F t v f → Air X.K Z σ H ρ F m e t v f) : rMt X mt x xs H2 Q := by
  obtain ⟨fx, ox⟩ := ox
  obtain ⟨fs, os⟩ := os
  have val : ∀ {d : D} {v : V}, r = .leaf d → Rp X.K (vw H2 F2 Z) d v → Q v H2 := fun e1 rv => by subst e1; exact post.val s xx hp rv (ht _ _ _ _ _ _ _ _)
  have lst : ∀ {ds : List D} {vs : List V} {p : Addr}, r = .lst (ds.map .leaf) → RpL X.K (vw H2 F2 Z) ds vs → H2 p = none → Q (.ref p) (upd H2 p (.lst vs)) := fun e1 rv n => by subst e1; exact post.lst s xx hp rv n (ht _ _ _ _ _ _ _ _)
  unfold mtOp at hr
  split at hr
  · rename_i a b
    split at hr
    · rename_i hc
      cases hr
      obtain ⟨v1, r1, f1, f2, e1, _, o1, e2, _⟩ := os
      subst e1 e2
      exact ⟨_, mt_split, a, b, ox.1, by rw [show v1 = .str b from o1.1], by simpa using hc.1, hc.2, fun p n => lst rfl (RpL.mapStr _) n⟩
    · cases hr
  · rename_i a u
    split at hr
    · rename_i ds qi
      split at hr
      · rename_i ys qs
        split at hr
        · rename_i hc
          cases hr
          obtain ⟨v1, r1, f1, f2, e1, _, o1, e2, _⟩ := os
          subst e1 e2
          obtain ⟨p, vs, e3, hv, rr⟩ := seqD_ok hid_le qi o1
          obtain ⟨e4, e5⟩ := rr.strs qs
          subst e4
          unfold joinOk at hc
          exact ⟨_, mt_join, a, p, ys, ox.1, by rw [e3], hv, of_decide_eq_true hc, val rfl rfl⟩
        · cases hr
      · cases hr
    · cases hr
  · rename_i a b
    cases hr
    obtain ⟨v1, r1, f1, f2, e1, _, o1, e2, _⟩ := os
    subst e1 e2
    exact ⟨_, mt_startswith, a, b, ox.1, by rw [show v1 = .str b from o1.1], val rfl rfl⟩
  · rename_i a
    split at hr
    · rename_i hc
      cases hr
      exact ⟨_, mt_upper, a, ox.1, os.1, hc, val rfl rfl⟩
    · cases hr
  · rename_i a
    split at hr
    · rename_i hc
      cases hr
      exact ⟨_, mt_lower, a, ox.1, os.1, hc, val rfl rfl⟩
    · cases hr
  · rename_i d
    split at hr
    · rename_i ds q
      split at hr
      · rename_i hc
        split at hr
        · rename_i n hn
          cases hr
          obtain ⟨v1, r1, f1, f2, e1, _, o1, e2, _⟩ := os
          subst e1 e2
          have dp := (ox.flat q).dp hid_le
          obtain ⟨p, vs, e3, _, _⟩ := (ox.flat q).list hid_le
          subst e3
          obtain ⟨z, h1, h2, h3⟩ := findEq_ok hn
          exact ⟨_, mt_indexD hu, p, v1, d, ds, n, z, rfl, rfl, dp, (Rp.le hid_le o1.1).dp, hc.2, hc.1, h1, h2, h3, val rfl rfl⟩
        · cases hr
      · cases hr
    · cases hr
  · cases hr
end
end Pz
/-! P2h: method calls, displays of dicts. -/
namespace Pz
open PySem PySem.Spec PyProof.Rows L2
section
variable {X : Cx} {φ : Nat → List T → FR} {ca : Nat → Addr} {W : WX} {m : M} {a b c : Expr} {ea eb ec : E} {pos apos : Pos}
theorem kd_str {t : T} (h : kdOf t = some .str) : ∃ z, t = .leaf (.str z) := by
  unfold kdOf at h
  split at h <;> first | cases h | skip
  exact ⟨_, rfl⟩
theorem kd_list {t : T} (h : kdOf t = some .list) : (∃ z, t = .leaf (.list z)) ∨ ∃ ts, t = .lst ts := by
  unfold kdOf at h
  split at h <;> first | cases h | skip
  · exact .inl ⟨_, rfl⟩
  · exact .inr ⟨_, rfl⟩
theorem mt_tyV {G H : Hp} {mt : Mt} {t : T} {v : V} {fq : List Addr} (g : Le G H) (h : kdOf t = some (mtKd mt)) (o : Ow X.K G H t v fq) : tyV X.K (mtTy mt) v H := by
  have str : kdOf t = some .str → mtTy mt = "str" → tyV X.K (mtTy mt) v H := fun h e => by
    obtain ⟨z, ez⟩ := kd_str h
    subst ez
    have ev : v = .str z := o.1
    subst ev
    exact e
  have lst : kdOf t = some .list → mtTy mt = "list" → tyV X.K (mtTy mt) v H := fun h h1 => by
    rcases kd_list h with ⟨z, ez⟩ | ⟨ts, ez⟩
    · subst ez
      obtain ⟨p, vs, e1, hp, _⟩ := o.1
      subst e1
      exact .inl ⟨h1, vs, SqL.of (g _ _ hp)⟩
    · subst ez
      obtain ⟨p, vs, f, e1, hp, _, _⟩ := o
      subst e1
      exact .inl ⟨h1, vs, SqL.of hp⟩
  cases mt <;> first | exact str h rfl | exact lst h rfl
theorem mt_core (hu : X.A.units + 65 < cLine) {mt : Mt} {ees : Es} {σ : L2.St} {H : Hp} {Q : VK} (hm : m ≠ .cd) (q : xE φ ca X.K W m (.mt mt ea ees) σ H Q) :
    xE φ ca X.K W .rd ea σ H fun x H1 => tyV X.K (mtTy mt) x H1 ∧ xA φ ca X.K W ees σ H1 fun xs H2 => rMt X mt x xs H2 Q := by
  obtain ⟨Z, ρ, F, s, q⟩ := q
  unfold ev at q
  rw [fin_ne hm] at q
  refine ⟨Z, ρ, F, s, q.bind.imp fun t ρ1 h1 => ?_⟩
  intro v1 H1 F1 f1 s1 x1 a1
  split at h1
  · rename_i hk
    obtain ⟨fq, o1⟩ := a1.read s1
    refine ⟨mt_tyV hid_le hk o1, zp Z f1, ρ1, F1, s1, h1.bind.rebase x1 fun ts ρ2 h2 => ?_⟩
    intro vs H2 F2 f2 s2 x2 a2 _
    have xx := x1.trans x2
    have ow : ∀ x, opnd ea t ρ2 false = some x → ∃ fq, Ow X.K (vw H2 F2 (zp Z (f1 ++ f2))) H2 x v1 fq := fun x q => by
      have tmp : Tmp X.K Z H1 F1 t v1 f1 → x = t → ∃ fq, Ow X.K (vw H2 F2 (zp Z (f1 ++ f2))) H2 x v1 fq := fun q e => by
        have o := q.2.2.step s1 x2
        rw [zp_zp] at o
        subst e
        exact ⟨_, o⟩
      cases ea with
      | var k' =>
        obtain ⟨e1, e2, e3⟩ := a1
        obtain ⟨v', f', e4, o, _⟩ := s2.get (show getSlot ρ2 k' = some x from q)
        rw [e2] at e4
        cases e4
        rw [zp_zp] at o
        exact ⟨f', o⟩
      | idx y z =>
        obtain ⟨e1, fq, o⟩ := a1
        subst e1
        unfold opnd at q
        simp only at q
        split at q
        · rename_i hc
          cases q
          rcases hc with hc | hc
          · cases t with
            | leaf d =>
              refine ⟨[], ?_⟩
              have := o.1
              rw [List.nil_append]
              rw [← zp_zp, zp_nil] at *
              exact ⟨this.le x2.view, rfl⟩
            | _ => cases hc
          · cases hc
        · cases q
      | _ =>
        have q' : some t = some x := q
        exact tmp a1 (by cases q'; rfl)
    rw [zp_zp] at s2
    cases q2 : opnd ea t ρ2 false with
    | none => rw [q2] at h2; exact h2.elim
    | some x =>
      rw [q2] at h2
      obtain ⟨r, hr, post⟩ := R.of_some h2
      have os := a2.2.2
      rw [zp_zp] at os
      exact mt_ok (e := .mt mt ea ees) hu s2 xx (fun z => by cases z) (ow x q2) ⟨_, os⟩ hr post fun _ _ _ _ _ _ _ _ h => h
  · exact h1.elim
theorem xA_nil {σ : L2.St} {H : Hp} {Q : List V → Hp → Prop} (q : xA φ ca X.K W .nil σ H Q) : Q [] H := by
  obtain ⟨Z, ρ, F, s, q⟩ := q
  exact q [] H F [] (by rw [zp_nil]; exact s) (by rw [List.append_nil]; exact Ext.refl) ⟨List.nodup_nil, fun _ z => (nomatch z), rfl, rfl⟩ trivial
theorem c_mt0 (hu : X.A.units + 65 < cLine) {mt : Mt} (ha : PE X a (xE φ ca X.K W .rd ea)) (hm : m ≠ .cd) (hb : attributeBase a (mtName mt) X.env (eval a X.env) = eval a X.env) (hl : (apos.endLine == pos.line) = true) :
    PE X (.Call (.Attribute a (mtName mt) apos) [] [] pos) (xE φ ca X.K W m (.mt mt ea .nil)) := by
  obtain ⟨pa, sl, ty⟩ := mt_facts mt
  exact PE.imp (pe_bm0 pa sl ty (mt_any mt) ha hb hl) fun σ H Q q => by
    obtain ⟨Z, ρ, F, s, q⟩ := mt_core hu hm q
    exact ⟨Z, ρ, F, s, q.imp fun t ρ' h v H' F' fp s' x' a' => ⟨(h v H' F' fp s' x' a').1, xA_nil (h v H' F' fp s' x' a').2⟩⟩
theorem c_mt (hu : X.A.units + 65 < cLine) {mt : Mt} {e : Expr} {es : List Expr} {ees : Es} (ha : PE X a (xE φ ca X.K W .rd ea)) (hes : PA X (e :: es) (xA φ ca X.K W ees)) (hm : m ≠ .cd) (hb : attributeBase a (mtName mt) X.env (eval a X.env) = eval a X.env) (hl : (apos.endLine == pos.line) = true)
    (hfew : ((backTo pos (starEach (e :: es) X.env)).all (fun x => !x.1) && (backToKw pos (keywordEach [] X.env)).all (fun x => x.1.isSome)
      && decide ((e :: es).length + ([] : List Keyword).length + (if ([] : List Keyword).isEmpty then 0 else 1) < 30)) = true)
    (hs : starEach (e :: es) X.env = (false, eval e X.env) :: starEach es X.env) (hplain : (backTo pos (starEach es X.env)).any (·.1) = false) :
    PE X (.Call (.Attribute a (mtName mt) apos) (e :: es) [] pos) (xE φ ca X.K W m (.mt mt ea ees)) := by
  obtain ⟨pa, sl, ty⟩ := mt_facts mt
  exact PE.imp (pe_bm pa sl ty (mt_any mt) ha hes hb hfew hl hs hplain) fun σ H Q q => mt_core hu hm q

/-! ### dicts -/
/-- the pairs of a display -/
def xD (φ : Nat → List T → FR) (ca : Nat → Addr) (K : Frag) (W : WX) (ks : List Key) (es : Es) (σ : L2.St) (H : Hp) (Q : List (V × V) → Hp → Prop) : Prop :=
  ∃ Z ρ F, St K Z σ H ρ F ∧ SatR ca K W Z σ H F (evEsO φ es ρ) fun ts ρ' => ts.length = ks.length ∧ ∀ vs H' F' fp, St K (zp Z fp) σ H' ρ' F' → Ext false H F H' (F' ++ fp) → TmpL K Z H' F' ts vs fp → Q ((ks.zip vs).map fun kv => (kV kv.1, kv.2)) H'
structure CPs (X : Cx) (pos : Pos) (keys : List (Option Expr)) (values : List Expr) (φ : Nat → List T → FR) (ca : Nat → Addr) (W : WX) (ks : List Key) (es : Es) : Prop where
  run : ∃ trs, PPs X pos keys values trs ∧ ∀ σ H Q, xD φ ca X.K W ks es σ H Q → tPairs trs σ H Q
theorem cp_nil : CPs X pos [] [] φ ca W [] .nil := ⟨[], pps_nil, fun σ H Q q => by
  obtain ⟨Z, ρ, F, s, q⟩ := q
  exact q.2 [] H F [] (by rw [zp_nil]; exact s) (by rw [List.append_nil]; exact Ext.refl) ⟨List.nodup_nil, fun _ z => (nomatch z), rfl, rfl⟩⟩
theorem cp_cons {ke ve : Expr} {kes : List (Option Expr)} {ves : List Expr} {k : Key} {ks : List Key} {ee : E} {ees : Es} (hk : PE X ke (tC (kV k))) (hv : PE X ve (xE φ ca X.K W .mv ee)) (h : CPs X pos kes ves φ ca W ks ees) :
    CPs X pos (some ke :: kes) (ve :: ves) φ ca W (k :: ks) (.cons ee ees) := by
  obtain ⟨trs, hp, ht⟩ := h.run
  refine ⟨_, pps_cons hk hv hp, fun σ H Q q => ?_⟩
  obtain ⟨Z, ρ, F, s, q⟩ := q
  unfold evEsO at q
  show xE φ ca X.K W .mv ee σ H _
  refine ⟨Z, ρ, F, s, q.bind.imp fun t ρ1 h1 => fun v1 H1 F1 f1 s1 x1 a1 => ht _ _ _ ?_⟩
  refine ⟨zp Z f1, ρ1, F1, s1, h1.bind.rebase x1 fun ts ρ2 h2 => ⟨by simpa using h2.1, fun vs H2 F2 f2 s2 x2 a2 => ?_⟩⟩
  obtain ⟨n1, d1, o1⟩ := a1.mv
  have xx := x1.trans x2
  rw [zp_zp] at s2
  exact h2.2 (v1 :: vs) H2 F2 (f1 ++ f2) s2 xx.toF (.cons (o1.step s1 x2) n1 d1 a2)
/-- an own dict: what is known of its parts -/
theorem OwD.of_zip {K : Frag} {G H : Hp} : ∀ {ks : List Key} {ts : List T} {vs : List V} {f : List Addr}, ts.length = ks.length → OwL K G H ts vs f → OwD K G H (ks.zip ts) (ks.zip vs) f
  | [], [], vs, f, _, h => by
    obtain ⟨e1, e2⟩ := h
    subst e1 e2
    exact ⟨rfl, rfl⟩
  | k :: ks, t :: ts, vs, f, e, h => by
    obtain ⟨v, r, f1, f2, e1, e2, h1, h2⟩ := h
    subst e1 e2
    exact ⟨v, ks.zip r, f1, f2, rfl, rfl, h1, OwD.of_zip (by simpa using e) h2⟩
  | [], _ :: _, _, _, e, _ => by cases e
  | _ :: _, [], _, _, e, _ => by cases e
theorem putK_new {kvs : List (Key × V)} {k : Key} {v : V} (h : k ∉ kvs.map (·.1)) : putK kvs k v = kvs ++ [(k, v)] := by
  unfold putK
  rw [if_neg]
  intro z
  obtain ⟨p, hp, e⟩ := List.any_eq_true.mp z
  exact h (List.mem_map.mpr ⟨p, hp, of_decide_eq_true e⟩)
theorem merge_new : ∀ {more kvs : List (Key × V)}, (kvs.map (·.1) ++ more.map (·.1)).Nodup → mergeK kvs more = kvs ++ more
  | [], kvs, _ => by simp [mergeK]
  | p :: r, kvs, h => by
    have h1 : p.1 ∉ kvs.map (·.1) := fun z => (List.nodup_append.mp h).2.2 p.1 z p.1 (by simp) rfl
    show mergeK (putK kvs p.1 p.2) r = _
    rw [putK_new h1, merge_new (by simpa using h)]
    simp
theorem zip_keysT : ∀ {ks : List Key} {vs : List T}, vs.length = ks.length → (ks.zip vs).map (·.1) = ks
  | [], vs, _ => by simp
  | k :: ks, v :: vs, e => by simp [zip_keysT (ks := ks) (vs := vs) (by simpa using e)]
  | _ :: _, [], e => by cases e
theorem zip_keys : ∀ {ks : List Key} {vs : List V}, vs.length = ks.length → (ks.zip vs).map (·.1) = ks
  | [], vs, _ => by simp
  | k :: ks, v :: vs, e => by simp [zip_keys (ks := ks) (vs := vs) (by simpa using e)]
  | _ :: _, [], e => by cases e
/-- an own object -/
theorem St.own {K : Frag} {Z : Addr → Prop} {σ : L2.St} {H : Hp} {ρ : Rho} {F f g : List Addr} {p : Addr} {o : HO} (s : St K (zp Z f) σ H ρ F) (n : H p = none) (sub : ∀ a ∈ g, a ∈ f) : St K (zp Z (p :: g)) σ (upd H p o) ρ F := by
  have nF : p ∉ F := fun z => by obtain ⟨o, q⟩ := s.alive p z; rw [n] at q; cases q
  obtain ⟨F0, sl, pm⟩ := s.sl
  refine ⟨⟨F0, sl.le ?_ (fun a ha o q => le_alloc n a o q), pm⟩, s.nd, fun a ha z => ?_, fun a z => ?_⟩
  · refine vw_le fun b o q n1 n2 => ⟨le_alloc n b o q, n1, fun z => ?_⟩
    rcases z with z | z
    · exact n2 (.inl z)
    · rcases List.mem_cons.mp z with z | z
      · subst z; rw [n] at q; cases q
      · exact n2 (.inr (sub b z))
  · rcases z with z | z
    · exact s.dz a ha (.inl z)
    · rcases List.mem_cons.mp z with z | z
      · subst z; exact nF ha
      · exact s.dz a ha (.inr (sub a z))
  · rcases z with z | z
    · obtain ⟨o, q⟩ := s.zt a (.inl z)
      exact ⟨o, le_alloc n a o q⟩
    · rcases List.mem_cons.mp z with z | z
      · subst z; exact ⟨_, upd_same⟩
      · obtain ⟨o, q⟩ := s.zt a (.inr (sub a z))
        exact ⟨o, le_alloc n a o q⟩
theorem St.wr {K : Frag} {Z : Addr → Prop} {σ : L2.St} {H : Hp} {ρ : Rho} {F : List Addr} {p : Addr} {o : HO} (s : St K Z σ H ρ F) (z : Z p) : St K Z σ (upd H p o) ρ F := by
  have nF : p ∉ F := fun y => s.dz p y z
  obtain ⟨F0, sl, pm⟩ := s.sl
  refine ⟨⟨F0, sl.le (vw_le fun b o q n1 n2 => ⟨?_, n1, n2⟩) (fun a ha o q => ?_), pm⟩, s.nd, s.dz, fun a y => ?_⟩
  · rw [upd_ne (fun (e : b = p) => n2 (by rw [e]; exact z))]; exact q
  · rw [upd_ne (fun (e : a = p) => nF (by rw [← e]; exact pm.mem_iff.mp ha))]; exact q
  · by_cases e : a = p
    · subst e; exact ⟨_, upd_same⟩
    · rw [upd_ne e]; exact s.zt a y
theorem c_dct {keys : List (Option Expr)} {values : List Expr} {ks : List Key} {ees : Es} (h : CPs X pos keys values φ ca W ks ees) (hall : keys.all (·.isSome) = true) (hl : keys.length = values.length) (h0 : keys ≠ []) (h15 : keys.length ≤ 15) (hm : m ≠ .cd) :
    PE X (.Dict keys values pos) (xE φ ca X.K W m (.dct ks ees)) := by
  obtain ⟨trs, hp, ht⟩ := h.run
  refine PE.imp (pe_disp hp hall hl h0 h15) fun σ H Q q => ?_
  obtain ⟨Z, ρ, F, s, q⟩ := q
  unfold ev at q
  rw [fin_ne hm] at q
  intro p n
  have s0 : St X.K (zp Z [p]) σ (upd H p (.dK [])) ρ F := St.own (f := []) (by rw [zp_nil]; exact s) n fun _ z => z
  have x0 : Ext true H F (upd H p (.dK [])) (F ++ [p]) := Ext.alloc1 n
  have nZ : ¬ Z p := fun z => by obtain ⟨o, q⟩ := s.zt p z; rw [n] at q; cases q
  refine ht _ _ _ ⟨zp Z [p], ρ, F, s0, q.bind.rebase x0 fun ts ρ1 h1 => ?_⟩
  split at h1
  · rename_i hc
    refine ⟨hc.1, fun vs H1 F1 f1 s1 x1 a1 => ?_⟩
    have nF0 : p ∉ F := fun z => by obtain ⟨o, q⟩ := s.alive p z; rw [n] at q; cases q
    have hp1 : H1 p = some (.dK []) := x1.keep p _ upd_same nF0
    have hlen : vs.length = ks.length := by rw [← a1.2.2.len]; exact hc.1
    refine ⟨hp1, ks.zip vs, rfl, by rw [List.length_zip, hlen, Nat.min_self, ← hc.1]; exact hc.2.1, ?_⟩
    have hk : (ks.zip vs).map (·.1) = ks := zip_keys hlen
    rw [merge_new (by rw [hk]; simpa using hc.2.2), List.nil_append]
    have np : p ∉ f1 := fun z => a1.2.1 p z (.inr (by simp))
    have xx := x0.trans x1
    have s2 : St X.K (zp Z (p :: f1)) σ (upd H1 p (.dK (ks.zip vs))) ρ1 F1 := by
      have : St X.K (zp Z (p :: f1)) σ H1 ρ1 F1 := s1.unz fun a z => by
        rcases z with z | z
        · exact .inl (.inl z)
        · rcases List.mem_cons.mp z with z | z
          · exact .inl (.inr (by simp [z]))
          · exact .inr z
      exact this.wr (.inr (by simp))
    have nF1 : p ∉ F1 := fun z => s1.dz p z (.inl (.inr (by simp)))
    refine h1 (.ref p) _ F1 (p :: f1) s2 ⟨fun b o e nb => ?_, fun b hb => ?_, fun z => by cases z⟩ ⟨List.nodup_cons.mpr ⟨np, a1.1⟩, fun b hb => ?_, p, _, f1, rfl, upd_same, rfl, ?_, ?_⟩
    · have nb' : b ≠ p := fun e2 => by subst e2; rw [n] at e; cases e
      rw [upd_ne nb']
      exact xx.keep b o e nb
    · exact xx.sub b (by simp at hb ⊢; rcases hb with z | z | z <;> simp [z])
    · rcases List.mem_cons.mp hb with z | z
      · subst z; exact nZ
      · exact fun y => a1.2.1 b z (.inl y)
    · have e : ((ks.zip ts).map (·.1)) = ks := by
        exact zip_keysT hc.1
      rw [e]
      exact hc.2.2
    · refine OwD.of_zip hc.1 (a1.2.2.le ?_ fun a ha o q => ?_)
      · refine vw_le fun b o q n1 n2 => ⟨?_, n1, fun z => ?_⟩
        · rw [upd_ne (fun (e : b = p) => n2 (.inl (.inr (by simp [e]))))]; exact q
        · rcases z with z | z
          · exact n2 (.inl (.inl z))
          · rcases List.mem_cons.mp z with z | z
            · exact n2 (.inl (.inr (by simp [z])))
            · exact n2 (.inr z)
      · rw [upd_ne (fun (e : a = p) => np (by rw [← e]; exact ha))]; exact q
  · exact h1.elim
end
end Pz
/-! P2i: paths into owned trees. -/
namespace Pz
open PySem PySem.Spec PyProof.Rows L2
def dV : D → V
  | .int i => .int i
  | .str x => .str x
  | _ => .non
/-- the object at a has u at y -/
def ItemV (H : Hp) (a : Addr) (y u : V) : Prop :=
  (∃ vs k n, y = .int k ∧ H a = some (.lst vs) ∧ ixN vs.length k = some n ∧ vs[n]? = some u) ∨ (∃ ws k, y = kV k ∧ H a = some (.dK ws) ∧ valV ws k = some u)
def ChainV (H : Hp) : List V → V → V → Prop
  | [], v, w => w = v
  | y :: ys, v, w => ∃ a u, v = .ref a ∧ ItemV H a y u ∧ ChainV H ys u w
theorem kV_inj {j k : Key} (h : kV j = kV k) : j = k := by
  cases j <;> cases k <;> simp [kV] at h <;> simp [h]
theorem ItemV.det {H : Hp} {a : Addr} {y u w : V} (h : ItemV H a y u) (h' : ItemV H a y w) : u = w := by
  rcases h with ⟨vs, k, n, e, h1, h2, h3⟩ | ⟨ws, k, e, h1, h2⟩ <;> rcases h' with ⟨vs', k', n', e', h1', h2', h3'⟩ | ⟨ws', k', e', h1', h2'⟩
  · rw [e] at e'
    cases e'
    rw [h1] at h1'
    cases h1'
    rw [h2] at h2'
    cases h2'
    rw [h3] at h3'
    exact Option.some.inj h3'
  · rw [h1] at h1'; cases h1'
  · rw [h1] at h1'; cases h1'
  · rw [e] at e'
    have := kV_inj e'
    subst this
    rw [h1] at h1'
    cases h1'
    rw [h2] at h2'
    exact Option.some.inj h2'
theorem ChainV.det {H : Hp} : ∀ {ys : List V} {v u w : V}, ChainV H ys v u → ChainV H ys v w → u = w
  | [], _, _, _, h, h' => h.trans h'.symm
  | y :: ys, v, u, w, h, h' => by
    obtain ⟨a, x, e, i, c⟩ := h
    obtain ⟨a', x', e', i', c'⟩ := h'
    rw [e] at e'
    cases e'
    have := i.det i'
    subst this
    exact c.det c'
theorem ItemV.le {H H' : Hp} {a : Addr} {y u : V} (l : Le H H') (h : ItemV H a y u) : ItemV H' a y u := by
  rcases h with ⟨vs, k, n, e, h1, h2, h3⟩ | ⟨ws, k, e, h1, h2⟩
  · exact .inl ⟨vs, k, n, e, l _ _ h1, h2, h3⟩
  · exact .inr ⟨ws, k, e, l _ _ h1, h2⟩
theorem ChainV.le {H H' : Hp} (l : Le H H') : ∀ {ys : List V} {v u : V}, ChainV H ys v u → ChainV H' ys v u
  | [], _, _, h => h
  | y :: ys, v, u, h => by
    obtain ⟨a, x, e, i, c⟩ := h
    exact ⟨a, x, e, i.le l, c.le l⟩
theorem ChainV.snoc {H : Hp} : ∀ {ys : List V} {v u w : V} {a : Addr} {y : V}, ChainV H ys v u → u = .ref a → ItemV H a y w → ChainV H (ys ++ [y]) v w
  | [], _, _, w, a, y, h, e, i => ⟨a, w, h ▸ e, i, rfl⟩
  | z :: ys, v, u, w, a, y, h, e, i => by
    obtain ⟨b, x, e', i', c⟩ := h
    exact ⟨b, x, e', i', c.snoc e i⟩
/-! ### one step down -/
section
variable {K : Frag} {G G' H H' : Hp}
theorem OwL.focus : ∀ {ts : List T} {vs : List V} {fp : List Addr} {n : Nat} {c : T}, OwL K G H ts vs fp → ts[n]? = some c → ∃ w fw fr, vs[n]? = some w ∧ Ow K G H c w fw ∧ fp.Perm (fw ++ fr) ∧
    ∀ G' H' c' fw', Le G G' → (∀ b ∈ fr, ∀ o, H b = some o → H' b = some o) → Ow K G' H' c' w fw' → ∃ fp', OwL K G' H' (ts.set n c') vs fp' ∧ fp'.Perm (fw' ++ fr)
  | [], _, _, _, _, _, e => by simp at e
  | t :: ts, _, _, 0, c, x, e => by
    obtain ⟨v, r, f1, f2, e1, ef, x1, x2⟩ := x
    subst e1 ef
    simp at e
    subst e
    refine ⟨v, f1, f2, rfl, x1, List.Perm.refl _, fun G' H' c' fw' g k o => ⟨fw' ++ f2, ⟨v, r, fw', f2, rfl, rfl, o, x2.le g k⟩, List.Perm.refl _⟩⟩
  | t :: ts, _, _, n + 1, c, x, e => by
    obtain ⟨v, r, f1, f2, e1, ef, x1, x2⟩ := x
    subst e1 ef
    obtain ⟨w, fw, fr, e2, o, p, k⟩ := OwL.focus (n := n) (c := c) x2 (by simpa using e)
    have pm : ∀ g : List Addr, (f1 ++ (g ++ fr)).Perm (g ++ (f1 ++ fr)) := fun g => by
      rw [← List.append_assoc, ← List.append_assoc]
      exact List.Perm.append_right fr List.perm_append_comm
    refine ⟨w, fw, f1 ++ fr, by simpa using e2, o, (List.Perm.append_left f1 p).trans (pm fw), fun G' H' c' fw' g kk o' => ?_⟩
    obtain ⟨fp', h1, h2⟩ := k G' H' c' fw' g (fun b hb => kk b (by simp [hb])) o'
    exact ⟨f1 ++ fp', ⟨v, r, f1, fp', rfl, rfl, x1.le g (fun b hb => kk b (by simp [hb])), h1⟩, (List.Perm.append_left f1 h2).trans (pm fw')⟩
theorem OwD.focus : ∀ {ts : List (Key × T)} {vs : List (Key × V)} {fp : List Addr} {k : Key} {c : T}, OwD K G H ts vs fp → getK ts k = some c → ∃ w fw fr, valV vs k = some w ∧ Ow K G H c w fw ∧ fp.Perm (fw ++ fr) ∧
    ∀ G' H' c' fw', Le G G' → (∀ b ∈ fr, ∀ o, H b = some o → H' b = some o) → Ow K G' H' c' w fw' → ∃ fp', OwD K G' H' (putT ts k c') vs fp' ∧ fp'.Perm (fw' ++ fr)
  | [], _, _, _, _, _, e => by cases e
  | (j, t) :: ts, _, _, k, c, x, e => by
    obtain ⟨v, r, f1, f2, e1, ef, x1, x2⟩ := x
    subst e1 ef
    unfold getK at e
    rw [valV_cons]
    by_cases h : j = k
    · rw [if_pos h] at e ⊢
      cases e
      refine ⟨v, f1, f2, rfl, x1, List.Perm.refl _, fun G' H' c' fw' g kk o => ⟨fw' ++ f2, ?_, List.Perm.refl _⟩⟩
      unfold putT
      rw [if_pos h]
      exact ⟨v, r, fw', f2, rfl, rfl, o, x2.le g kk⟩
    · rw [if_neg h] at e ⊢
      obtain ⟨w, fw, fr, e2, o, p, kk0⟩ := OwD.focus x2 e
      have pm : ∀ g : List Addr, (f1 ++ (g ++ fr)).Perm (g ++ (f1 ++ fr)) := fun g => by
        rw [← List.append_assoc, ← List.append_assoc]
        exact List.Perm.append_right fr List.perm_append_comm
      refine ⟨w, fw, f1 ++ fr, e2, o, (List.Perm.append_left f1 p).trans (pm fw), fun G' H' c' fw' g kk o' => ?_⟩
      obtain ⟨fp', h1, h2⟩ := kk0 G' H' c' fw' g (fun b hb => kk b (by simp [hb])) o'
      refine ⟨f1 ++ fp', ?_, (List.Perm.append_left f1 h2).trans (pm fw')⟩
      unfold putT
      rw [if_neg h]
      exact ⟨v, r, f1, fp', rfl, rfl, x1.le g (fun b hb => kk b (by simp [hb])), h1⟩
theorem putT_keys {kvs : List (Key × T)} {k : Key} {c u : T} : getK kvs k = some c → (putT kvs k u).map (·.1) = kvs.map (·.1) := by
  induction kvs with
  | nil => intro h; cases h
  | cons p r ih =>
    intro h
    unfold getK at h
    unfold putT
    by_cases e : p.1 = k
    · rw [if_pos e]; simp
    · rw [if_neg e] at h ⊢
      simp [ih h]
/-- down a path: the subtree, what holds it, and how it goes back -/
theorem Ow.focus {α : Type} {f : T → Option (α × T)} : ∀ {ds : List D} {t t' : T} {v : V} {fp : List Addr} {a : α}, onPath f ds t = some (a, t') → Ow K G H t v fp → ∃ c c' w fw fr, f c = some (a, c') ∧ Ow K G H c w fw ∧ fp.Perm (fw ++ fr) ∧
    ChainV H (ds.map dV) v w ∧ (∀ d ∈ ds, (keyOf d).isSome = true) ∧
    ∀ G' H' fw', Le G G' → (∀ b ∈ fr, ∀ o, H b = some o → H' b = some o) → Ow K G' H' c' w fw' → ∃ fp', Ow K G' H' t' v fp' ∧ fp'.Perm (fw' ++ fr)
  | [], t, t', v, fp, a, e, o => ⟨t, t', v, fp, [], e, o, by simp, rfl, (fun _ z => by cases z), fun G' H' fw' g k o' => ⟨fw', o', by simp⟩⟩
  | d :: ds, t, t', v, fp, a, e, o => by
    unfold onPath at e
    split at e
    · rename_i p hp
      split at e
      · rename_i c1 hc
        split at e
        · rename_i a' c1' he
          split at e
          · rename_i t2 hs
            cases e
            cases t with
            | lst ts =>
              obtain ⟨ad, vs, f0, e1, ha, ef, r⟩ := o
              subst e1 ef
              cases d with
              | int k =>
                simp only [plOf, Option.map_eq_some_iff] at hp
                obtain ⟨n, hn, e2⟩ := hp
                subst e2
                obtain ⟨w1, fw1, fr1, h1, h2, h3, h4⟩ := r.focus (show ts[n]? = some c1 from hc)
                obtain ⟨c, c', w, fw, fr, g1, g2, g3, g4, g5, g6⟩ := Ow.focus he h2
                simp only [setChild] at hs
                split at hs
                · cases hs
                  refine ⟨c, c', w, fw, ad :: (fr ++ fr1), g1, g2, ?_, ⟨ad, w1, rfl, .inl ⟨vs, k, n, rfl, ha, by rw [← r.len]; exact hn, h1⟩, g4⟩, ?_, fun G' H' fw' l kk o' => ?_⟩
                  · refine (List.Perm.cons ad (h3.trans (List.Perm.append_right fr1 g3))).trans ?_
                    rw [List.append_assoc]
                    exact List.perm_middle.symm
                  · intro d' hd
                    rcases List.mem_cons.mp hd with z | z
                    · subst z; rfl
                    · exact g5 d' z
                  · obtain ⟨fp1, i1, i2⟩ := g6 G' H' fw' l (fun b hb => kk b (by simp [hb])) o'
                    obtain ⟨fp2, j1, j2⟩ := h4 G' H' c1' fp1 l (fun b hb => kk b (by simp [hb])) i1
                    refine ⟨ad :: fp2, ⟨ad, vs, fp2, rfl, kk ad (by simp) _ ha, rfl, j1⟩, ?_⟩
                    refine (List.Perm.cons ad (j2.trans (List.Perm.append_right fr1 i2))).trans ?_
                    rw [List.append_assoc]
                    exact List.perm_middle.symm
                · cases hs
              | _ => cases hp
            | dct kvs =>
              obtain ⟨ad, vs, f0, e1, ha, ef, nd, r⟩ := o
              subst e1 ef
              simp only [plOf, Option.map_eq_some_iff] at hp
              obtain ⟨n, hn, e2⟩ := hp
              subst e2
              obtain ⟨w1, fw1, fr1, h1, h2, h3, h4⟩ := r.focus (show getK kvs n = some c1 from hc)
              obtain ⟨c, c', w, fw, fr, g1, g2, g3, g4, g5, g6⟩ := Ow.focus he h2
              simp only [setChild] at hs
              cases hs
              have hk : dV d = kV n := by
                cases d <;> simp [keyOf] at hn <;> subst hn <;> rfl
              refine ⟨c, c', w, fw, ad :: (fr ++ fr1), g1, g2, ?_, ⟨ad, w1, rfl, .inr ⟨vs, n, hk, ha, h1⟩, g4⟩, ?_, fun G' H' fw' l kk o' => ?_⟩
              · refine (List.Perm.cons ad (h3.trans (List.Perm.append_right fr1 g3))).trans ?_
                rw [List.append_assoc]
                exact List.perm_middle.symm
              · intro d' hd
                rcases List.mem_cons.mp hd with z | z
                · subst z; rw [hn]; rfl
                · exact g5 d' z
              · obtain ⟨fp1, i1, i2⟩ := g6 G' H' fw' l (fun b hb => kk b (by simp [hb])) o'
                obtain ⟨fp2, j1, j2⟩ := h4 G' H' c1' fp1 l (fun b hb => kk b (by simp [hb])) i1
                refine ⟨ad :: fp2, ⟨ad, vs, fp2, rfl, kk ad (by simp) _ ha, rfl, by rw [putT_keys hc]; exact nd, j1⟩, ?_⟩
                refine (List.Perm.cons ad (j2.trans (List.Perm.append_right fr1 i2))).trans ?_
                rw [List.append_assoc]
                exact List.perm_middle.symm
            | _ => cases hp
          · cases e
        · cases e
      · cases e
    · cases e
end
/-! ### paths as expressions -/
def stepV (σ : L2.St) : Step → V → Prop
  | .i n, y => y = .int n
  | .s x, y => y = .str x
  | .v k, y => σ[k]? = some (some y)
def stepsV (σ : L2.St) : List Step → List V → Prop
  | [], ys => ys = []
  | s :: r, ys => ∃ y zs, ys = y :: zs ∧ stepV σ s y ∧ stepsV σ r zs
theorem stepsV.snoc {σ : L2.St} : ∀ {st : List Step} {ys : List V} {s : Step} {y : V}, stepsV σ st ys → stepV σ s y → stepsV σ (st ++ [s]) (ys ++ [y])
  | [], _, _, y, h, h' => by
    rw [h]
    exact ⟨y, [], rfl, h', rfl⟩
  | _ :: st, _, _, y, h, h' => by
    obtain ⟨z, zs, e, h1, h2⟩ := h
    subst e
    exact ⟨z, zs ++ [y], rfl, h1, h2.snoc h'⟩
theorem stepsV.det {σ : L2.St} : ∀ {st : List Step} {ys zs : List V}, stepsV σ st ys → stepsV σ st zs → ys = zs
  | [], _, _, h, h' => h.trans h'.symm
  | s :: st, _, _, h, h' => by
    obtain ⟨z, zs, e, h1, h2⟩ := h
    obtain ⟨z', zs', e', h1', h2'⟩ := h'
    subst e e'
    rw [h2.det h2']
    congr 1
    cases s with
    | i n => exact h1.trans h1'.symm
    | s x => exact h1.trans h1'.symm
    | v k =>
      have : some (some z) = some (some z') := h1.symm.trans h1'
      cases this
      rfl
theorem stepsV_of {K : Frag} {Z : Addr → Prop} {σ : L2.St} {H : Hp} {ρ : Rho} {F : List Addr} (s : St K Z σ H ρ F) : ∀ {st : List Step} {ds : List D}, stepsD ρ st = some ds → (∀ d ∈ ds, (keyOf d).isSome = true) → stepsV σ st (ds.map dV)
  | [], _, e, _ => by cases e; rfl
  | x :: st, ds, e, h => by
    unfold stepsD at e
    split at e
    · rename_i d hd
      split at e
      · rename_i ds' hs
        cases e
        refine ⟨dV d, ds'.map dV, rfl, ?_, stepsV_of s hs fun d' hd' => h d' (by simp [hd'])⟩
        have hk := h d (by simp)
        cases x with
        | i n => cases hd; rfl
        | s z => cases hd; rfl
        | v k =>
          simp only [stepD] at hd
          split at hd
          · rename_i d' q
            cases hd
            obtain ⟨v, f, e1, o, _⟩ := s.get (getSlot_iff.mpr q)
            show σ[k]? = _
            rw [e1]
            cases d with
            | int i => rw [show v = .int i from o.1]; rfl
            | str i => rw [show v = .str i from o.1]; rfl
            | _ => cases hk
          · cases hd
      · cases e
    · cases e
/-- what stands at a path -/
def xP (k : Nat) (st : List Step) : TE := fun σ H Q => ∃ v ys w, σ[k]? = some (some v) ∧ stepsV σ st ys ∧ ChainV H ys v w ∧ Q w H
section
variable {X : Cx} {φ : Nat → List T → FR} {ca : Nat → Addr} {W : WX} {m : M} {a b c : Expr} {ea eb ec : E} {pos apos : Pos}
theorem p_nil {k : Nat} {x : Str} (hN : X.N[k]? = some x) (hv : Vis X.env.scope x) (hd : (x == ("__debug__" : Str)) = false) (hcd : (x == ("__classdict__" : Str)) = false) : PE X (.Name x pos) (xP k []) := by
  refine PE.imp (pe_var hN hv hd hcd) fun σ H Q q => ?_
  obtain ⟨v, ys, w, e, h1, h2, q⟩ := q
  cases h1
  cases h2
  exact ⟨v, e, q⟩
/-- the step of a path -/
def xStep (s : Step) : TE := fun σ H Q => ∀ y, stepV σ s y → Q y H
theorem ix_item (hu : X.A.units + 1 < cLine) : IxR X (fun x y H Q => ∃ a u, x = .ref a ∧ ItemV H a y u ∧ Q u H) := by
  intro value slice pins s σ H x y v u Q I rx ry h hs
  obtain ⟨a, w, e, i, q⟩ := h
  rcases i with ⟨vs, k, n, e1, h1, h2, h3⟩ | ⟨ws, k, e1, h1, h2⟩
  · exact ix_list value slice pins s σ H x y v u Q I rx ry ⟨a, vs, k, w, e, e1, SqL.of h1, atI_of h2 h3, q⟩ hs
  · subst e1
    exact ix_dict hu value slice pins s σ H x _ v u Q I rx ry ⟨a, w, e, h2 ▸ DGet.k h1, q⟩ hs
theorem p_snoc (hu : X.A.units + 1 < cLine) {k : Nat} {st : List Step} {s : Step} {i : Expr} {ti : TE} (ha : PE X a (xP k st)) (hi : PE X i ti) (h : ∀ σ H Q y, stepV σ s y → Q y H → ti σ H Q) (hs : PlainIx i) : PE X (.Subscript a i pos) (xP k (st ++ [s])) := by
  refine PE.imp (pe_ix (ix_item hu) ha hi hs) fun σ H Q q => ?_
  obtain ⟨v, ys, w, e, h1, h2, q⟩ := q
  have cut : ∀ {st : List Step} {ys : List V}, stepsV σ (st ++ [s]) ys → ∃ zs y, ys = zs ++ [y] ∧ stepsV σ st zs ∧ stepV σ s y := by
    intro st
    induction st with
    | nil =>
      intro ys h
      obtain ⟨y, zs, e, h1, h2⟩ := h
      subst e
      rw [show zs = [] from h2]
      exact ⟨[], y, rfl, rfl, h1⟩
    | cons x st ih =>
      intro ys h
      obtain ⟨y, zs, e, h1, h2⟩ := h
      subst e
      obtain ⟨zs', y', e', h3, h4⟩ := ih h2
      subst e'
      exact ⟨y :: zs', y', rfl, ⟨y, zs', rfl, h1, h3⟩, h4⟩
  have cutC : ∀ {zs : List V} {y v w : V}, ChainV H (zs ++ [y]) v w → ∃ a, ChainV H zs v (.ref a) ∧ ItemV H a y w := by
    intro zs
    induction zs with
    | nil =>
      intro y v w h
      obtain ⟨a, u, e, i, c⟩ := h
      subst e
      cases c
      exact ⟨a, rfl, i⟩
    | cons z zs ih =>
      intro y v w h
      obtain ⟨a, u, e, i, c⟩ := h
      obtain ⟨a', c', i'⟩ := ih c
      exact ⟨a', ⟨a, u, e, i, c'⟩, i'⟩
  obtain ⟨zs, y, e2, h3, h4⟩ := cut h1
  subst e2
  obtain ⟨a', c1, i1⟩ := cutC h2
  exact ⟨v, zs, .ref a', e, h3, c1, h σ H _ y h4 ⟨a', w, rfl, i1, q⟩⟩
end
end Pz
/-! P2j: an owned tree is changed in place. -/
namespace Pz
open PySem PySem.Spec PyProof.Rows L2
section
variable {K : Frag} {Z : Addr → Prop} {σ : L2.St} {H H' : Hp} {ρ : Rho} {F f f' g : List Addr} {α : Type}
theorem St.swap (s : St K (zp Z g) σ H ρ F) (keep : ∀ b o, H b = some o → b ∉ g → H' b = some o) (al : ∀ b o, H b = some o → ∃ o', H' b = some o') (sub : ∀ a ∈ f', a ∈ g) : St K (zp Z f') σ H' ρ F := by
  obtain ⟨F0, sl, pm⟩ := s.sl
  refine ⟨⟨F0, sl.le (vw_le fun b o q n1 n2 => ⟨keep b o q fun z => n2 (.inr z), n1, fun z => n2 (z.imp id (sub b))⟩) (fun a ha o q => keep a o q fun z => s.dz a (pm.mem_iff.mp ha) (.inr z)), pm⟩, s.nd, fun a ha z => s.dz a ha (z.imp id (sub a)), fun a z => ?_⟩
  obtain ⟨o, q⟩ := s.zt a (z.imp id (sub a))
  exact al a o q
theorem St.edit {fn : T → Option (α × T)} {k : Nat} {t t' : T} {ds : List D} {a : α} (s : St K (zp Z f) σ H ρ F) (e : getSlot ρ k = some t) (he : onPath fn ds t = some (a, t')) (dz : ∀ a ∈ f, ¬ Z a) :
    ∃ v c c' w fw G, σ[k]? = some (some v) ∧ fn c = some (a, c') ∧ Le (vw H F (zp Z f)) G ∧ Le G H ∧ Ow K G H c w fw ∧ ChainV H (ds.map dV) v w ∧ (∀ d ∈ ds, (keyOf d).isSome = true) ∧ (∀ a ∈ fw, a ∈ F) ∧ fw.Nodup ∧
      ∀ H' fw', (∀ b o, H b = some o → b ∉ fw → H' b = some o) → (∀ b o, H b = some o → ∃ o', H' b = some o') → (∀ a ∈ fw', a ∈ f ∨ a ∈ fw) → fw'.Nodup → (∀ G', Le G G' → Ow K G' H' c' w fw') →
        ∃ F', St K Z σ H' (ρ.set k (some t')) F' ∧ (∀ a ∈ F', a ∈ f ∨ a ∈ F) ∧ Le G (vw H' F' Z) := by
  obtain ⟨v, fv, F1, e1, o, s', pm, nv, dv⟩ := s.take e
  obtain ⟨c, c', w, fw, fr, g1, g2, g3, g4, g5, g6⟩ := Ow.focus he o
  have inF : ∀ a ∈ fv, a ∈ F := fun a h => pm.mem_iff.mpr (by simp [h])
  have wv : ∀ a ∈ fw, a ∈ fv := fun a h => g3.mem_iff.mpr (by simp [h])
  have rv : ∀ a ∈ fr, a ∈ fv := fun a h => g3.mem_iff.mpr (by simp [h])
  have ndw := List.nodup_append.mp (g3.nodup_iff.mp nv)
  refine ⟨v, c, c', w, fw, vw H F1 (zp (zp Z f) fv), e1, g1, ?_, hid_le, g2, g4, g5, fun a h => inF a (wv a h), ndw.1, fun H' fw' keep al sub nd' ow => ?_⟩
  · refine vw_le fun b o e n1 n2 => ⟨e, fun z => n1 (pm.mem_iff.mpr (by simp [z])), fun z => z.elim n2 fun z => n1 (inF b z)⟩
  · have frk : ∀ b ∈ fr, ∀ o, H b = some o → H' b = some o := fun b hb o q => keep b o q fun z => ndw.2.2 b z b hb rfl
    have sub' : ∀ a ∈ fw' ++ fr, a ∈ f ++ fv := fun a h => by
      rcases List.mem_append.mp h with h | h
      · rcases sub a h with h | h
        · simp [h]
        · simp [wv a h]
      · simp [rv a h]
    have lg : Le (vw H F1 (zp (zp Z f) fv)) (vw H' F1 (zp Z (fw' ++ fr))) := vw_le fun b o e n1 n2 => by
      refine ⟨keep b o e fun z => n2 (.inr (wv b z)), n1, fun z => ?_⟩
      rcases z with z | z
      · exact n2 (.inl (.inl z))
      · rcases List.mem_append.mp (sub' b z) with z | z
        · exact n2 (.inl (.inr z))
        · exact n2 (.inr z)
    obtain ⟨fp', o', pp⟩ := g6 (vw H' F1 (zp Z (fw' ++ fr))) H' fw' lg frk (ow _ lg)
    have ez : zp Z (fw' ++ fr) = zp Z fp' := by
      funext b
      exact propext ⟨fun h => h.imp id (fun z => pp.mem_iff.mpr z), fun h => h.imp id (fun z => pp.mem_iff.mp z)⟩
    have s2 : St K (zp Z fp') σ H' (ρ.set k none) F1 := by
      rw [zp_zp] at s'
      refine s'.swap (fun b o q n => keep b o q fun z => n (by simp [wv b z])) al fun a h => sub' a (pp.mem_iff.mp h)
    have hk : k < ρ.length := by
      rw [getSlot_iff] at e
      exact (List.getElem?_eq_some_iff.mp e).1
    have nf : fp'.Nodup := by
      refine pp.nodup_iff.mpr (List.nodup_append.mpr ⟨nd', ndw.2.1, fun x hx y hy z => ?_⟩)
      subst z
      rcases sub x hx with h | h
      · exact s.dz x (inF x (rv x hy)) (.inr h)
      · exact ndw.2.2 x h x hy rfl
    have s3 := s2.put (by rw [List.getElem?_set_self hk]) e1 (by rw [← ez]; exact o') nf (fun a h => by
      rcases List.mem_append.mp (sub' a (pp.mem_iff.mp h)) with z | z
      · exact dz a z
      · exact fun y => s.dz a (inF a z) (.inl y))
    rw [List.set_set] at s3
    refine ⟨_, s3, fun a h => ?_, ?_⟩
    · rcases List.mem_append.mp h with h | h
      · rcases List.mem_append.mp (sub' a (pp.mem_iff.mp h)) with z | z
        · exact .inl z
        · exact .inr (inF a z)
      · exact .inr (pm.mem_iff.mpr (by simp [h]))
    · refine lg.trans (vw_le fun b o e n1 n2 => ⟨e, fun z => ?_, fun z => n2 (.inl z)⟩)
      rcases List.mem_append.mp z with z | z
      · exact n2 (.inr (pp.mem_iff.mp z))
      · exact n1 z
/-- the path's value, when there is one -/
theorem St.path {fn : T → Option (α × T)} {k : Nat} {t : T} {ds : List D} {st : List Step} (s : St K Z σ H ρ F) (e : getSlot ρ k = some t) (hs : stepsD ρ st = some ds) (he : (onPath fn ds t).isSome = true) :
    ∃ v ys w c a c' fw, σ[k]? = some (some v) ∧ stepsV σ st ys ∧ ChainV H ys v w ∧ fn c = some (a, c') ∧ Ow K (vw H F Z) H c w fw := by
  obtain ⟨⟨a, t'⟩, he⟩ := Option.isSome_iff_exists.mp he
  obtain ⟨v, f, e1, o, _⟩ := s.get e
  obtain ⟨c, c', w, fw, fr, g1, g2, g3, g4, g5, g6⟩ := Ow.focus he o
  exact ⟨v, ds.map dV, w, c, a, c', fw, e1, stepsV_of s hs g5, g4, g1, g2⟩
theorem isL_list {c : T} {w : V} {G : Hp} {fw : List Addr} {x : Unit × T} (h : isL c = some x) (o : Ow K G H c w fw) : ∃ p vs, w = .ref p ∧ H p = some (.lst vs) := by
  cases c with
  | lst ts =>
    obtain ⟨p, vs, _, e, hp, _⟩ := o
    exact ⟨p, vs, e, hp⟩
  | _ => cases h
end
/-- what was read at the path before is what is there -/
theorem path_same {H H1 : Hp} {σ : L2.St} {k : Nat} {st : List Step} {v v' w w' : V} {ys ys' : List V} (e : σ[k]? = some (some v)) (h1 : stepsV σ st ys) (h2 : ChainV H ys v w) (e' : σ[k]? = some (some v')) (h1' : stepsV σ st ys') (h2' : ChainV H1 ys' v' w')
    (hp : st.isEmpty = true ∨ Le H H1) : w = w' := by
  rw [e] at e'
  cases e'
  have ey := h1.det h1'
  subst ey
  rcases hp with hp | hp
  · have : st = [] := List.isEmpty_iff.mp hp
    subst this
    cases h1
    exact (show w = v from h2).trans (show w' = v from h2').symm
  · exact (h2.le hp).det h2'
theorem ret_leaf {K : Frag} {Z : Addr → Prop} {σ : L2.St} {H : Hp} {ρ : Rho} {F : List Addr} {m : M} {e : E} {d : D} {v : V} {fp : List Addr} (a : Air K Z σ H ρ F m e (.leaf d) v fp) (s : St K (zp Z fp) σ H ρ F) : fp = [] ∧ Rp K (vw H F Z) d v := by
  have tmp : Tmp K Z H F (.leaf d) v fp → fp = [] ∧ Rp K (vw H F Z) d v := fun h => ⟨h.2.2.2, h.2.2.1.le vw_unz⟩
  cases e with
  | var k =>
    unfold Air at a
    simp only at a
    by_cases hm : m = .rd
    · rw [if_pos hm] at a
      obtain ⟨e1, e2, e3⟩ := a
      obtain ⟨v', f, e4, o, _⟩ := s.get e3
      rw [e2] at e4
      cases e4
      exact ⟨e1, o.1.le vw_unz⟩
    · rw [if_neg hm] at a
      exact tmp a.1
  | idx x y =>
    unfold Air at a
    simp only at a
    by_cases hm : m = .rd
    · rw [if_pos hm] at a
      obtain ⟨e1, fq, o⟩ := a
      exact ⟨e1, o.1⟩
    · rw [if_neg hm] at a
      exact tmp a
  | _ => exact tmp a
section
variable {X : Cx} {φ : Nat → List T → FR} {ca : Nat → Addr} {W : WX} {m : M} {a b c : Expr} {ea eb ec : E} {pos apos : Pos}
theorem OwL.getLast {K : Frag} {G H : Hp} : ∀ {ts : List T} {vs : List V} {fp : List Addr} {d : D}, OwL K G H ts vs fp → ts.getLast? = some (.leaf d) → ∃ v, vs[vs.length - 1]? = some v ∧ Rp K G d v ∧ OwL K G H ts.dropLast vs.dropLast fp
  | [], _, _, _, _, e => by cases e
  | [t], _, _, d, x, e => by
    obtain ⟨v, r, f1, f2, e1, ef, x1, x2⟩ := x
    obtain ⟨e2, e3⟩ := x2
    subst e1 ef e2 e3
    cases e
    exact ⟨v, rfl, x1.1, rfl, by rw [x1.2]; rfl⟩
  | t :: u :: ts, _, _, d, x, e => by
    obtain ⟨v, r, f1, f2, e1, ef, x1, x2⟩ := x
    subst e1 ef
    obtain ⟨v', h1, h2, h3⟩ := OwL.getLast (d := d) x2 (by simpa using e)
    have hl := x2.len
    cases r with
    | nil => cases hl
    | cons w r =>
      refine ⟨v', by simpa using h1, h2, ?_⟩
      exact ⟨v, (w :: r).dropLast, f1, f2, rfl, rfl, x1, h3⟩
theorem OwL.erase {K : Frag} {G H : Hp} : ∀ {ts : List T} {vs : List V} {fp : List Addr} {d : D} {n : Nat}, OwL K G H ts vs fp → ts[n]? = some (.leaf d) → ∃ v, vs[n]? = some v ∧ Rp K G d v ∧ OwL K G H (ts.eraseIdx n) (vs.eraseIdx n) fp
  | [], _, _, _, _, _, e => by simp at e
  | t :: ts, _, _, d, 0, x, e => by
    obtain ⟨v, r, f1, f2, e1, ef, x1, x2⟩ := x
    subst e1 ef
    simp at e
    subst e
    obtain ⟨r1, e2⟩ := x1
    subst e2
    exact ⟨v, rfl, r1, x2⟩
  | t :: ts, _, _, d, n + 1, x, e => by
    obtain ⟨v, r, f1, f2, e1, ef, x1, x2⟩ := x
    subst e1 ef
    obtain ⟨v', h1, h2, h3⟩ := OwL.erase (d := d) (n := n) x2 (by simpa using e)
    exact ⟨v', by simpa using h1, h2, v, r.eraseIdx n, f1, f2, rfl, rfl, x1, h3⟩
/-- pop by values -/
theorem pop_ok {k : Nat} {st : List Step} {ie : E} {o : Option Int} {Z : Addr → Prop} {σ : L2.St} {H H1 : Hp} {ρ1 : Rho} {F F1 : List Addr} {t t' u : T} {ds : List D} {x : V} {Q : VK}
    (s : St X.K Z σ H1 ρ1 F1) (xx : Ext false H F H1 F1) (e : getSlot ρ1 k = some t) (es : stepsD ρ1 st = some ds) (he : onPath (popT o) ds t = some (u, t')) (hu : u.isLeaf = true)
    (same : ∀ v' ys' w', σ[k]? = some (some v') → stepsV σ st ys' → ChainV H1 ys' v' w' → x = w') (post : Post X.K Z σ H F m (.pop k st ie) u (ρ1.set k (some t')) Q) :
    ∃ p xs y ys, x = .ref p ∧ H1 p = some (.lst xs) ∧ (o = none → xs[xs.length - 1]? = some y ∧ ys = xs.dropLast) ∧ (∀ i, o = some i → -(2 ^ 63) ≤ i ∧ i < 2 ^ 63 ∧ ∃ n, seqIndex? i xs.length = some n ∧ xs[n]? = some y ∧ ys = xs.eraseIdx n) ∧ Q y (upd H1 p (.lst ys)) := by
  have s0 : St X.K (zp Z []) σ H1 ρ1 F1 := by rw [zp_nil]; exact s
  obtain ⟨v, c, c', w, fw, G, e1, h1, g1, g2, o1, ch, hk, wF, nw, go⟩ := s0.edit e he (fun _ z => by cases z)
  have ex := same v _ w e1 (stepsV_of s es hk) ch
  subst ex
  cases c with
  | lst ts =>
    obtain ⟨p, vs, f0, e2, hp, ef, r⟩ := o1
    subst e2 ef
    have npf := List.nodup_cons.mp nw
    have core : ∀ {d : D} {y : V} {ys : List V} {ts' : List T}, u = .leaf d → c' = .lst ts' → Rp X.K G d y → OwL X.K G H1 ts' ys f0 → Q y (upd H1 p (.lst ys)) := fun {d y ys ts'} eu ec ry rl => by
      subst eu ec
      obtain ⟨F', s2, sub, le⟩ := go (upd H1 p (.lst ys)) (p :: f0) (fun b o q n => by rw [upd_ne (fun z => n (by simp [z]))]; exact q) (fun b o q => by
        by_cases z : b = p
        · subst z; exact ⟨_, upd_same⟩
        · rw [upd_ne z]; exact ⟨o, q⟩) (fun a h => .inr h) nw fun G' l => ⟨p, ys, f0, rfl, upd_same, rfl, rl.le l fun a ha o q => by
          rw [upd_ne (fun z => npf.1 (by rw [← z]; exact ha))]; exact q⟩
      refine post y _ F' [] (by rw [zp_nil]; exact s2) ⟨fun b o q n => ?_, fun b hb => ?_, fun z => by cases z⟩ ⟨List.nodup_nil, (fun _ z => by cases z), ry.le (by rw [zp_nil]; exact le), rfl⟩
      · have n1 : b ∉ F1 := fun z => (xx.sub b z).elim n fun z => by rw [z] at q; cases q
        rw [upd_ne (fun z => n1 (by rw [z]; exact wF p (by simp)))]
        exact xx.keep b o q n
      · simp at hb
        rcases sub b hb with z | z
        · cases z
        · exact xx.sub b z
    unfold popT at h1
    cases o with
    | none =>
      simp only at h1
      split at h1
      · rename_i t0 ht
        cases h1
        cases u with
        | leaf d =>
          obtain ⟨y, hy, ry, rl⟩ := r.getLast ht
          exact ⟨p, vs, y, _, rfl, hp, fun _ => ⟨hy, rfl⟩, (fun i z => by cases z), core rfl rfl ry rl⟩
        | _ => cases hu
      · cases h1
    | some i =>
      simp only at h1
      split at h1
      · rename_i hi; rw [Nat.ble_eq] at hi
        split at h1
        · rename_i n hn
          split at h1
          · rename_i t0 ht
            cases h1
            cases u with
            | leaf d =>
              obtain ⟨y, hy, ry, rl⟩ := r.erase ht
              refine ⟨p, vs, y, _, rfl, hp, (fun z => by cases z), fun i' z => ?_, core rfl rfl ry rl⟩
              cases z
              exact ⟨by omega, by omega, n, by rw [← r.len]; exact (ixN_seq hn).1, hy, rfl⟩
            | _ => cases hu
          · cases h1
        · cases h1
      · cases h1
  | leaf d => cases o <;> simp [popT] at h1
  | dct _ => cases o <;> simp [popT] at h1
  | rng _ _ => cases o <;> simp [popT] at h1
  | scr _ => cases o <;> simp [popT] at h1
  | hole _ => cases o <;> simp [popT] at h1
  | xcp _ _ _ => cases o <;> simp [popT] at h1
theorem SatR.okD {α : Type} {K : Frag} {Z : Addr → Prop} {σ : L2.St} {H : Hp} {F : List Addr} {a : α} {ρ1 : Rho} {k : α → Rho → Prop} (h : SatR ca K W Z σ H F (.ok a ρ1) k) : k a ρ1 := h
/-- the receiver of a method that changes a list -/
theorem recv {k : Nat} {st : List Step} {Z : Addr → Prop} {σ : L2.St} {H : Hp} {ρ : Rho} {F : List Addr} {Q : VK} (s : St X.K Z σ H ρ F) (h : isLst ρ k st = true)
    (q : ∀ v ys w, σ[k]? = some (some v) → stepsV σ st ys → ChainV H ys v w → tyV X.K "list" w H → Q w H) : xP k st σ H Q := by
  unfold isLst at h
  split at h
  · rename_i t ds e1 e2
    obtain ⟨v, ys, w, c, a, c', fw, h1, h2, h3, h4, o⟩ := s.path e1 e2 h
    obtain ⟨p, vs, e3, hp⟩ := isL_list h4 o
    exact ⟨v, ys, w, h1, h2, h3, q v ys w h1 h2 h3 (by subst e3; exact .inl ⟨rfl, vs, SqL.of hp⟩)⟩
  · cases h
theorem c_pop0 {k : Nat} {st : List Step} (ha : PE X a (xP k st)) (hm : m ≠ .cd) (hb : attributeBase a "pop" X.env (eval a X.env) = eval a X.env) (hl : (apos.endLine == pos.line) = true) :
    PE X (.Call (.Attribute a "pop" apos) [] [] pos) (xE φ ca X.K W m (.pop k st .nop)) := by
  refine PE.imp (pe_bm0 PySem.F.plainAttrs_list PySem.F.slot_list_pop PySem.F.type_list_pop mt_pop ha hb hl) fun σ H Q q => ?_
  obtain ⟨Z, ρ, F, s, q⟩ := q
  unfold ev at q
  rw [fin_ne hm] at q
  split at q
  · rename_i h
    refine recv s h fun v ys w e1 h1 h2 ty => ⟨ty, ?_⟩
    rw [show optR (isNop .nop) (ev φ .rd .nop ρ) ρ = .ok none ρ from rfl] at q
    simp only [R.bind] at q
    split at q
    · rename_i t ds e2 e3
      split at q
      · rename_i u t' e4
        split at q
        · rename_i hc
          obtain ⟨p, xs, y, ys', e5, hp, hn, _, qq⟩ := pop_ok s Ext.refl e2 e3 e4 hc.2 (fun v' ys' w' a1 a2 a3 => path_same e1 h1 h2 a1 a2 a3 (.inr (Le.refl _))) q
          obtain ⟨hy, e6⟩ := hn rfl
          subst e6
          exact ⟨p, xs, y, e5, rfl, hp, hy, qq⟩
        · exact q.elim
      · exact q.elim
    · exact q.elim
  · exact q.elim
theorem c_pop1 {k : Nat} {st : List Step} (ha : PE X a (xP k st)) (hb' : PE X b (xE φ ca X.K W .rd eb)) (hnop : isNop eb = false) (hm : m ≠ .cd) (hb : attributeBase a "pop" X.env (eval a X.env) = eval a X.env) (hl : (apos.endLine == pos.line) = true)
    (hfew : ((backTo pos (starEach [b] X.env)).all (fun x => !x.1) && (backToKw pos (keywordEach [] X.env)).all (fun x => x.1.isSome)
      && decide (([b] : List Expr).length + ([] : List Keyword).length + (if ([] : List Keyword).isEmpty then 0 else 1) < 30)) = true)
    (hs : starEach [b] X.env = (false, eval b X.env) :: starEach [] X.env) (hplain : (backTo pos (starEach [] X.env)).any (·.1) = false) :
    PE X (.Call (.Attribute a "pop" apos) [b] [] pos) (xE φ ca X.K W m (.pop k st eb)) := by
  refine PE.imp (pe_bm PySem.F.plainAttrs_list PySem.F.slot_list_pop PySem.F.type_list_pop mt_popAt ha (pa_cons hb' pa_nil hs) hb hfew hl hs hplain) fun σ H Q q => ?_
  obtain ⟨Z, ρ, F, s, q⟩ := q
  unfold ev at q
  rw [fin_ne hm] at q
  split at q
  · rename_i h
    refine recv s h fun v ys w e1 h1 h2 ty => ⟨ty, ?_⟩
    rw [hnop] at q
    simp only [optR, Bool.false_eq_true, if_false] at q
    refine ⟨Z, ρ, F, s, q.bind.bind.imp fun ti ρ1 q1 => ?_⟩
    intro iv H1 F1 f1 s1 x1 a1
    split at q1
    · rename_i i hi
      have et : ti = .leaf (.int i) := by
        cases ti with
        | leaf d => cases d <;> cases hi; rfl
        | _ => cases hi
      subst et
      obtain ⟨ef, ri⟩ := ret_leaf a1 s1
      subst ef
      rw [zp_nil] at s1
      replace q1 := q1.okD
      split at q1
      · rename_i t ds e2 e3
        split at q1
        · rename_i u t' e4
          split at q1
          · rename_i hc
            rw [List.append_nil] at x1
            have hp : st.isEmpty = true ∨ Le H H1 := by
              have := hc.1
              simp only [Bool.or_eq_true] at this
              rcases this with (h | h) | h
              · exact .inl h
              · cases h
              · exact .inr (x1.pure h)
            obtain ⟨p, xs, y, ys', e5, hp', _, hn, qq⟩ := pop_ok s1 x1.toF e2 e3 e4 hc.2 (fun v' ys' w' a1 a2 a3 => path_same e1 h1 h2 a1 a2 a3 hp) q1
            obtain ⟨i1, i2, n, i3, i4, e6⟩ := hn i rfl
            subst e6
            have ev : iv = .int i := ri
            subst ev
            exact ⟨p, xs, i, n, y, e5, rfl, hp', i1, i2, i3, i4, qq⟩
          · exact q1.elim
        · exact q1.elim
      · exact q1.elim
    · exact q1.elim
  · exact q.elim
end
end Pz
/-! P2k: statements. -/
namespace Pz
open PySem PySem.Spec PyProof.Rows L2
def Pin (io : List Nat) (σ σ' : L2.St) : Prop := ∀ k ∈ io, σ'[k]? = σ[k]?
def PostO (ca : Nat → Addr) (K : Frag) (W : WX) (Z : Addr → Prop) (io : List Nat) (σ : L2.St) (H : Hp) (F : List Addr) (D : Ends) : O → Prop
  | .next ρ' => ∀ σ' H' F', St K Z σ' H' ρ' F' → Ext false H F H' F' → Pin io σ σ' → D.nx σ' H'
  | .brk ρ' => ∀ σ' H' F', St K Z σ' H' ρ' F' → Ext false H F H' F' → Pin io σ σ' → D.bk σ' H'
  | .cont ρ' => ∀ σ' H' F', St K Z σ' H' ρ' F' → Ext false H F H' F' → Pin io σ σ' → D.ct σ' H'
  | .ret t ρ' => ∀ v σ' H' F' fp, St K (zp Z fp) σ' H' ρ' F' → Ext false H F H' (F' ++ fp) → Pin io σ σ' → Tmp K Z H' F' t v fp → D.rt v H'
  | .exc x ρ' => ∀ cls d σ' H' F', St K Z σ' H' ρ' F' → Ext false H F H' F' → Pin io σ σ' → ExR ca K (vw H' F' Z) H' x cls d → W cls d σ' H'
  | .bad => False
def xS (ca : Nat → Addr) (K : Frag) (W : WX) (io : List Nat) (o : Rho → O) : TS := fun D σ H =>
  ∃ Z ρ F, St K Z σ H ρ F ∧ PostO ca K W Z io σ H F D (o ρ)
theorem PSs.imp {X : Cx} {st : List Stmt} {t t' : TS} (h : PSs X st t) (k : ∀ D σ H, t' D σ H → t D σ H) : PSs X st t' := ⟨fun pins s σ H D I q => h.run pins s σ H D I (k D σ H q)⟩
theorem PS.imp {X : Cx} {st : Stmt} {t t' : TS} (h : PS X st t) (k : ∀ D σ H, t' D σ H → t D σ H) : PS X st t' := ⟨fun pins s σ H D I q => h.run pins s σ H D I (k D σ H q)⟩
theorem Pin.refl {io : List Nat} {σ : L2.St} : Pin io σ σ := fun _ _ => rfl
theorem Pin.trans {io : List Nat} {σ σ1 σ2 : L2.St} (a : Pin io σ σ1) (b : Pin io σ1 σ2) : Pin io σ σ2 := fun k h => (b k h).trans (a k h)
theorem Pin.set {io : List Nat} {σ : L2.St} {k : Nat} {o : Option V} (h : k ∉ io) : Pin io σ (σ.set k o) := fun j hj => List.getElem?_set_ne (fun (e : k = j) => h (by rw [e]; exact hj))
section
variable {ca : Nat → Addr} {K : Frag} {W : WX} {Z Z' : Addr → Prop} {io : List Nat} {σ σ1 : L2.St} {H H' H1 : Hp} {ρ ρ' ρ1 : Rho} {F F' F1 : List Addr} {α : Type} {D : Ends}
theorem Ext.tr {pf pf' : Bool} (a : Ext pf H F H1 F1) (b : Ext pf' H1 F1 H' F') : Ext false H F H' F' := by
  have a' : Ext pf H F H1 (F1 ++ []) := by rw [List.append_nil]; exact a
  have b' : Ext pf' H1 F1 H' (F' ++ []) := by rw [List.append_nil]; exact b
  exact ((a'.trans b').mono fun x h => by simp [h]).toF
theorem PostO.rebase {o : O} (h : PostO ca K W Z io σ H F D o) (x : Ext false H F H1 F1) (p : Pin io σ σ1) : PostO ca K W Z io σ1 H1 F1 D o := by
  cases o with
  | next ρ' => exact fun σ' H' F' s y q => h σ' H' F' s (x.tr y) (p.trans q)
  | brk ρ' => exact fun σ' H' F' s y q => h σ' H' F' s (x.tr y) (p.trans q)
  | cont ρ' => exact fun σ' H' F' s y q => h σ' H' F' s (x.tr y) (p.trans q)
  | ret t ρ' => exact fun v σ' H' F' fp s y q tm => h v σ' H' F' fp s (x.tr y) (p.trans q) tm
  | exc e ρ' => exact fun cls d σ' H' F' s y q r => h cls d σ' H' F' s (x.tr y) (p.trans q) r
  | bad => exact h.elim
theorem PostO.go {r : R α} {f : α → Rho → O} (h : PostO ca K W Z io σ H F D (r.go f)) : SatR ca K W Z σ H F r fun a ρ1 => PostO ca K W Z io σ H F D (f a ρ1) := by
  cases r with
  | ok a ρ1 => exact h
  | exc x ρ1 => exact fun cls d H' F' s y q => h cls d σ H' F' s y Pin.refl q
  | bad => exact h
/-- what follows a block -/
def EndsThn (D : Ends) (P : L2.St → Hp → Prop) : Ends := { D with nx := P }
theorem PostO.thn {o : O} {f : Rho → O} (h : PostO ca K W Z io σ H F D (o.thn f)) : PostO ca K W Z io σ H F { D with nx := xS ca K W io f D } o := by
  cases o with
  | next ρ' => exact fun σ' H' F' s y q => ⟨Z, ρ', F', s, PostO.rebase h y q⟩
  | brk ρ' => exact h
  | cont ρ' => exact h
  | ret t ρ' => exact h
  | exc e ρ' => exact h
  | bad => exact h
/-- a step with something in the air that is put or dropped -/
theorem Ext.drop {pf : Bool} {f : List Addr} (a : Ext pf H F H1 (F1 ++ f)) : Ext false H F H1 F1 := (a.mono fun x h => by simp [h]).toF
theorem Ext.put {pf : Bool} {f F2 : List Addr} (a : Ext pf H F H1 (F1 ++ f)) (h : ∀ x ∈ F2, x ∈ f ++ F1) : Ext false H F H1 F2 := (a.mono fun x hx => by
  rcases List.mem_append.mp (h x hx) with z | z <;> simp [z]).toF
theorem St.air {f : List Addr} (s : St K (zp Z f) σ H ρ F) : St K Z σ H ρ F := s.unz fun _ z => .inl z
end
section
variable {X : Cx} {φ : Nat → List T → FR} {ca : Nat → Addr} {W : WX} {io : List Nat} {e a b c : Expr} {ee ea eb ec : E} {pos apos pos' : Pos} {rest : List Stmt} {s : S}
theorem c_snil : PSs X [] (xS ca X.K W io (evS φ io .nil)) := by
  refine PSs.imp pss_nil fun D σ H q => ?_
  obtain ⟨Z, ρ, F, s, q⟩ := q
  exact q σ H F s Ext.refl Pin.refl
theorem setSlot_some {k : Nat} {t : T} {ρ ρ' : Rho} (h : setSlot io k t ρ = some ρ') : k ∉ io ∧ k < ρ.length ∧ ρ' = ρ.set k (some t) := by
  unfold setSlot at h
  split at h
  · cases h
  · rename_i n
    cases h
    exact ⟨fun z => n (.inl z), Nat.lt_of_not_le fun z => n (.inr z), rfl⟩
/-- a statement that is an expression stored -/
theorem c_set {k : Nat} {x : Str} (hN : X.N.Nodup) (hi : X.N[k]? = some x) (hx : Loc X.env.scope x) (he : PE X e (xE φ ca X.K W .mv ee)) (hs : swapsWith e (some (.Name x pos')) pos.line X.env = pure false) (hf : X.fn x = true ∨ X.env.scope.names.lookup x = some .local)
    (hr : PSs X rest (xS ca X.K W io (evS φ io s))) : PSs X (.Assign [.Name x pos'] e pos :: rest) (xS ca X.K W io (evS φ io (.set k ee s))) := by
  refine PSs.imp (pss_cons (ps_set hN hi hx he hs hf) hr) fun D σ H q => ?_
  obtain ⟨Z, ρ, F, s, q⟩ := q
  unfold evS at q
  refine ⟨Z, ρ, F, s, q.go.imp fun t ρ1 h1 => fun v H1 F1 f1 s1 x1 a1 => ?_⟩
  split at h1
  · rename_i ρ2 e2
    obtain ⟨nk, lk, e3⟩ := setSlot_some e2
    subst e3
    obtain ⟨n1, d1, o1⟩ := a1.mv
    obtain ⟨F2, s2, sub⟩ := s1.store lk o1 n1 d1
    exact ⟨Z, _, F2, s2, h1.rebase (x1.put sub) (Pin.set nk)⟩
  · exact h1.elim
theorem c_expr (he : PE X e (xE φ ca X.K W .rd ee)) (hs : swapsWith e none pos.line X.env = pure false) (hr : PSs X rest (xS ca X.K W io (evS φ io s))) : PSs X (.Expr e pos :: rest) (xS ca X.K W io (evS φ io (.expr ee s))) := by
  refine PSs.imp (pss_cons (ps_expr he hs) hr) fun D σ H q => ?_
  obtain ⟨Z, ρ, F, s, q⟩ := q
  unfold evS at q
  exact ⟨Z, ρ, F, s, q.go.imp fun t ρ1 h1 => fun v H1 F1 f1 s1 x1 a1 => ⟨Z, _, F1, s1.air, h1.rebase x1.drop Pin.refl⟩⟩
theorem c_ret (he : PE X e (xE φ ca X.K W .mv ee)) : PSs X (.Return (some e) pos :: rest) (xS ca X.K W io (evS φ io (.ret ee))) := by
  refine PSs.imp (pss_cons (u := tNever) (ps_ret he) pss_never) fun D σ H q => ?_
  obtain ⟨Z, ρ, F, s, q⟩ := q
  unfold evS at q
  exact ⟨Z, ρ, F, s, q.go.imp fun t ρ1 h1 => fun v H1 F1 f1 s1 x1 a1 => h1 v σ H1 F1 f1 s1 x1.toF Pin.refl a1.mv⟩
theorem c_retN : PSs X (.Return none pos :: rest) (xS ca X.K W io (evS φ io .retN)) := by
  refine PSs.imp (pss_cons (u := tNever) ps_retN pss_never) fun D σ H q => ?_
  obtain ⟨Z, ρ, F, s, q⟩ := q
  exact q .non σ H F [] (by rw [zp_nil]; exact s) (by rw [List.append_nil]; exact Ext.refl) Pin.refl (.leaf rfl)
theorem c_brk : PSs X (.Break pos :: rest) (xS ca X.K W io (evS φ io .brk)) := by
  refine PSs.imp (pss_cons (u := tNever) ps_break pss_never) fun D σ H q => ?_
  obtain ⟨Z, ρ, F, s, q⟩ := q
  exact q σ H F s Ext.refl Pin.refl
theorem c_cont : PSs X (.Continue pos :: rest) (xS ca X.K W io (evS φ io .cont)) := by
  refine PSs.imp (pss_cons (u := tNever) ps_continue pss_never) fun D σ H q => ?_
  obtain ⟨Z, ρ, F, s, q⟩ := q
  exact q σ H F s Ext.refl Pin.refl
theorem c_pass (hr : PSs X rest (xS ca X.K W io (evS φ io s))) : PSs X (.Pass pos :: rest) (xS ca X.K W io (evS φ io (.pass s))) :=
  PSs.imp (pss_cons ps_pass hr) fun D σ H q => by
    obtain ⟨Z, ρ, F, s, q⟩ := q
    exact ⟨Z, ρ, F, s, q⟩
theorem c_if {sa sb : S} {as bs : List Stmt} (hc : PT X c (xC φ ca X.K W ec)) (ha : PSs X as (xS ca X.K W io (evS φ io sa))) (hb : PSs X bs (xS ca X.K W io (evS φ io sb))) (hr : PSs X rest (xS ca X.K W io (evS φ io s))) :
    PSs X (.If c as bs pos :: rest) (xS ca X.K W io (evS φ io (.ite ec sa sb s))) := by
  refine PSs.imp (pss_cons (ps_if hc ha hb) hr) fun D σ H q => ?_
  obtain ⟨Z, ρ, F, s, q⟩ := q
  unfold evS at q
  refine ⟨Z, ρ, F, s, q.go.bind.imp fun t ρ1 h1 => ?_⟩
  split at h1
  · rename_i k
    replace h1 : PostO ca X.K W Z io σ H F D ((if k = true then evS φ io sa ρ1 else evS φ io sb ρ1).thn fun ρ2 => evS φ io _ ρ2) := h1
    refine ⟨k, rfl, fun H' F' s' x' => ?_⟩
    have h2 := h1.thn.rebase x' Pin.refl
    cases k with
    | true => exact ⟨Z, ρ1, F', s', h2⟩
    | false => exact ⟨Z, ρ1, F', s', h2⟩
  · exact h1.elim
/-! ### targets -/
mutual
def BindR (K : Frag) (G : Hp) : Pat → D → L2.St → L2.St → Prop
  | .v k, d, σ, σ' => ∃ v, Rp K G d v ∧ σ' = σ.set k (some v)
  | .tup ps, .tuple ds, σ, σ' => BindRs K G ps ds σ σ'
  | _, _, _, _ => False
def BindRs (K : Frag) (G : Hp) : List Pat → List D → L2.St → L2.St → Prop
  | [], [], σ, σ' => σ' = σ
  | p :: ps, d :: ds, σ, σ' => ∃ σ1, BindR K G p d σ σ1 ∧ BindRs K G ps ds σ1 σ'
  | _, _, _, _ => False
end
mutual
def fits : Pat → D → Bool
  | .v _, _ => true
  | .tup ps, .tuple ds => fitsL ps ds
  | _, _ => false
def fitsL : List Pat → List D → Bool
  | [], [] => true
  | p :: ps, d :: ds => fits p d && fitsL ps ds
  | _, _ => false
end
def gP (K : Frag) (p : Pat) : TG := fun v σ H Q => ∃ G d, Le G H ∧ Rp K G d v ∧ fits p d = true ∧ ∀ σ', BindR K G p d σ σ' → Q σ' H
def gPs (K : Frag) (ps : List Pat) : TGs := fun vs σ H Q => ∃ G ds, Le G H ∧ RpL K G ds vs ∧ fitsL ps ds = true ∧ ∀ σ', BindRs K G ps ds σ σ' → Q σ' H
theorem PG.imp {e : Expr} {t t' : TG} (h : PG X e t) (k : ∀ v σ H Q, t' v σ H Q → t v σ H Q) : PG X e t' := ⟨fun pins s σ H v u Q I r q => h.run pins s σ H v u Q I r (k v σ H Q q)⟩
theorem PGs.imp {e : List Expr} {t t' : TGs} (h : PGs X e t) (k : ∀ v σ H Q, t' v σ H Q → t v σ H Q) : PGs X e t' := ⟨fun pins s σ H v u Q I r q => h.run pins s σ H v u Q I r (k v σ H Q q)⟩
theorem g_v {k : Nat} {x : Str} (hN : X.N.Nodup) (hi : X.N[k]? = some x) (hx : Loc X.env.scope x) (hf : X.fn x = true ∨ X.env.scope.names.lookup x = some .local) : PG X (.Name x pos) (gP X.K (.v k)) :=
  PG.imp (pg_name hN hi hx hf) fun v σ H Q q => by
    obtain ⟨G, d, l, r, f, q⟩ := q
    exact q _ ⟨v, r, rfl⟩
theorem g_nil : PGs X [] (gPs X.K []) := PGs.imp pgs_nil fun vs σ H Q q => by
  obtain ⟨G, ds, l, r, f, q⟩ := q
  cases ds with
  | nil => exact ⟨r, q _ rfl⟩
  | cons _ _ => cases f
theorem g_cons {p : Pat} {ps : List Pat} {es : List Expr} (h1 : PG X e (gP X.K p)) (h2 : PGs X es (gPs X.K ps)) (hs : (assignEach (e :: es) X.env).map (·.2) = assign e X.env :: (assignEach es X.env).map (·.2)) : PGs X (e :: es) (gPs X.K (p :: ps)) :=
  PGs.imp (pgs_cons h1 h2 hs) fun vs σ H Q q => by
    obtain ⟨G, ds, l, r, f, q⟩ := q
    cases ds with
    | nil => cases f
    | cons d ds =>
      obtain ⟨v, vr, e1, r1, r2⟩ := r
      simp only [fitsL, Bool.and_eq_true] at f
      exact ⟨v, vr, e1, G, d, l, r1, f.1, fun σ1 b1 => ⟨G, ds, l, r2, f.2, fun σ2 b2 => q σ2 ⟨σ1, b1, b2⟩⟩⟩
theorem fitsL_len : ∀ {ps : List Pat} {ds : List D}, fitsL ps ds = true → ps.length = ds.length
  | [], [], _ => rfl
  | p :: ps, d :: ds, h => by
    simp only [fitsL, Bool.and_eq_true] at h
    simp [fitsL_len h.2]
  | [], _ :: _, h => by cases h
  | _ :: _, [], h => by cases h
theorem g_tup {ps : List Pat} {es : List Expr} {k : Nat} (hc : X.calm = true) (h : PGs X es (gPs X.K ps)) (hn : (assignEach es X.env).length = ps.length) (hst : (assignEach es X.env).findIdx? (·.1) = none) : PG X (.Tuple es k pos) (gP X.K (.tup ps)) :=
  PG.imp (pg_tup hc h hn hst) fun v σ H Q q => by
    obtain ⟨G, d, l, r, f, q⟩ := q
    cases d with
    | tuple ds =>
      obtain ⟨a, xs, e1, ha, r1⟩ := r
      exact ⟨a, xs, e1, SqT.le l ha, by rw [← r1.len]; exact (fitsL_len f).symm, G, ds, l, r1, f, q⟩
    | _ => cases f
mutual
theorem bindP_fits : ∀ {p : Pat} {d : D} {ρ ρ' : Rho}, bindP p d ρ = some ρ' → fits p d = true
  | .v _, _, _, _, _ => rfl
  | .tup ps, .tuple ds, _, _, h => by
    unfold bindP at h
    exact bindPs_fits h
  | .tup _, .none, _, _, h => by cases h
  | .tup _, .bool _, _, _, h => by cases h
  | .tup _, .int _, _, _, h => by cases h
  | .tup _, .str _, _, _, h => by cases h
  | .tup _, .list _, _, _, h => by cases h
  | .tup _, .dict _, _, _, h => by cases h
theorem bindPs_fits : ∀ {ps : List Pat} {ds : List D} {ρ ρ' : Rho}, bindPs ps ds ρ = some ρ' → fitsL ps ds = true
  | [], [], _, _, _ => rfl
  | p :: ps, d :: ds, ρ, ρ', h => by
    unfold bindPs at h
    split at h
    · rename_i ρ1 h1
      simp [fitsL, bindP_fits h1, bindPs_fits h]
    · cases h
  | [], _ :: _, _, _, h => by cases h
  | _ :: _, [], _, _, h => by cases h
end
mutual
theorem bind_st {K : Frag} {Z : Addr → Prop} {H G : Hp} : ∀ {p : Pat} {d : D} {σ σ' : L2.St} {ρ ρ' : Rho} {F F0 : List Addr}, bindP p d ρ = some ρ' → St K Z σ H ρ F → Le G (vw H F0 Z) → (∀ a ∈ F, a ∈ F0) → BindR K G p d σ σ' →
    ∃ F', St K Z σ' H ρ' F' ∧ (∀ a ∈ F', a ∈ F) ∧ ∀ k, k ∉ patVs p → σ'[k]? = σ[k]?
  | .v k, d, σ, σ', ρ, ρ', F, F0, h, s, l, sb, b => by
    obtain ⟨v, r, e⟩ := b
    subst e
    have hk : k < ρ.length ∧ ρ' = ρ.set k (some (.leaf d)) := by
      unfold bindP at h
      split at h
      · rename_i q
        cases h
        exact ⟨(List.getElem?_eq_some_iff.mp q).1, rfl⟩
      · rename_i q
        cases h
        exact ⟨(List.getElem?_eq_some_iff.mp q).1, rfl⟩
      · cases h
    obtain ⟨hk, e⟩ := hk
    subst e
    have s0 : St K (zp Z []) σ H ρ F := by rw [zp_nil]; exact s
    have o : Ow K (vw H F (zp Z [])) H (.leaf d) v [] := ⟨by rw [zp_nil]; exact (r.le l).le (vw_le fun b o e n1 n2 => ⟨e, fun z => n1 (sb b z), n2⟩), rfl⟩
    obtain ⟨F', s', sub⟩ := s0.store hk o List.nodup_nil (fun _ z => by cases z)
    exact ⟨F', s', by simpa using sub, fun j hj => List.getElem?_set_ne (fun e => hj (by simp [patVs, e]))⟩
  | .tup ps, .tuple ds, σ, σ', ρ, ρ', F, F0, h, s, l, sb, b => by
    unfold bindP at h
    exact bind_sts h s l sb b
  | .tup _, .none, _, _, _, _, _, _, h, _, _, _, _ => by cases h
  | .tup _, .bool _, _, _, _, _, _, _, h, _, _, _, _ => by cases h
  | .tup _, .int _, _, _, _, _, _, _, h, _, _, _, _ => by cases h
  | .tup _, .str _, _, _, _, _, _, _, h, _, _, _, _ => by cases h
  | .tup _, .list _, _, _, _, _, _, _, h, _, _, _, _ => by cases h
  | .tup _, .dict _, _, _, _, _, _, _, h, _, _, _, _ => by cases h
theorem bind_sts {K : Frag} {Z : Addr → Prop} {H G : Hp} : ∀ {ps : List Pat} {ds : List D} {σ σ' : L2.St} {ρ ρ' : Rho} {F F0 : List Addr}, bindPs ps ds ρ = some ρ' → St K Z σ H ρ F → Le G (vw H F0 Z) → (∀ a ∈ F, a ∈ F0) → BindRs K G ps ds σ σ' →
    ∃ F', St K Z σ' H ρ' F' ∧ (∀ a ∈ F', a ∈ F) ∧ ∀ k, k ∉ patsVs ps → σ'[k]? = σ[k]?
  | [], [], σ, σ', ρ, ρ', F, F0, h, s, l, sb, b => by
    cases h
    cases b
    exact ⟨F, s, fun _ h => h, fun _ _ => rfl⟩
  | p :: ps, d :: ds, σ, σ', ρ, ρ', F, F0, h, s, l, sb, b => by
    unfold bindPs at h
    split at h
    · rename_i ρ1 h1
      obtain ⟨σ1, b1, b2⟩ := b
      obtain ⟨F1, s1, sub1, k1⟩ := bind_st h1 s l sb b1
      obtain ⟨F2, s2, sub2, k2⟩ := bind_sts h s1 l (fun a ha => sb a (sub1 a ha)) b2
      exact ⟨F2, s2, fun a ha => sub1 a (sub2 a ha), fun j hj => by
        simp only [patsVs, List.mem_append, not_or] at hj
        rw [k2 j hj.2, k1 j hj.1]⟩
    · cases h
  | [], _ :: _, _, _, _, _, _, _, h, _, _, _, _ => by cases h
  | _ :: _, [], _, _, _, _, _, _, h, _, _, _, _ => by cases h
end
theorem bindIo_some {p : Pat} {d : D} {ρ ρ' : Rho} (h : bindIo io p d ρ = some ρ') : bindP p d ρ = some ρ' ∧ ∀ k ∈ io, k ∉ patVs p := by
  unfold bindIo at h
  split at h
  · cases h
  · rename_i n
    refine ⟨h, fun k hk hp => n ?_⟩
    exact List.any_eq_true.mpr ⟨k, hp, decide_eq_true hk⟩
theorem c_asg {p : Pat} {tg : Expr} (he : PE X e (xE φ ca X.K W .rd ee)) (hg : PG X tg (gP X.K p)) (hs : swapsWithSole [tg] e pos.line X.env = pure false) (hw : swappedStores [tg] e X.env = pure none)
    (h1 : (assignEach [tg] X.env).map (·.2) = [assign tg X.env]) (hr : PSs X rest (xS ca X.K W io (evS φ io s))) : PSs X (.Assign [tg] e pos :: rest) (xS ca X.K W io (evS φ io (.asg p ee s))) := by
  refine PSs.imp (pss_cons (ps_asg he hg hs hw h1) hr) fun D σ H q => ?_
  obtain ⟨Z, ρ, F, s, q⟩ := q
  unfold evS at q
  refine ⟨Z, ρ, F, s, q.go.imp fun t ρ1 h1 => fun v H1 F1 f1 s1 x1 a1 => ?_⟩
  split at h1
  · rename_i d
    obtain ⟨ef, rv⟩ := ret_leaf a1 s1
    split at h1
    · rename_i ρ2 e2
      obtain ⟨hb, nio⟩ := bindIo_some e2
      refine ⟨_, d, hid_le, rv, bindP_fits hb, fun σ' b => ?_⟩
      obtain ⟨F2, s2, sub, kk⟩ := bind_st hb s1.air (Le.refl _) (fun _ h => h) b
      exact ⟨Z, _, F2, s2, h1.rebase (x1.put fun a h => by simp [sub a h]) fun k hk => kk k (nio k hk)⟩
    · exact h1.elim
  · exact h1.elim
/-! ### a, b = x, y -/
theorem c_par2 {i j : Nat} {x y : Str} {px py pt pt2 : Pos} {kt k2 : Nat} {ees : Es} (hc : X.calm = true) (hN : X.N.Nodup) (hi : X.N[i]? = some x) (hj : X.N[j]? = some y) (hij : i ≠ j)
    (hx : X.env.scope.names.lookup x = some .local) (hy : X.env.scope.names.lookup y = some .local) (ha : PA X [a, b] (xA φ ca X.K W ees))
    (hw : swappedStores [.Tuple [.Name x px, .Name y py] kt pt] (.Tuple [a, b] k2 pt2) X.env = pure (some [x, y])) (hr : PSs X rest (xS ca X.K W io (evS φ io s))) :
    PSs X (.Assign [.Tuple [.Name x px, .Name y py] kt pt] (.Tuple [a, b] k2 pt2) pos :: rest) (xS ca X.K W io (evS φ io (.par [i, j] ees s))) := by
  refine PSs.imp (pss_cons (ps_par hc hN hi hj hij hx hy ha hw) hr) fun D σ H q => ?_
  obtain ⟨Z, ρ, F, s, q⟩ := q
  unfold evS at q
  refine ⟨Z, ρ, F, s, q.go.imp fun ts ρ1 h1 => fun vs H1 F1 f1 s1 x1 a1 _ => ?_⟩
  split at h1
  · rename_i ρ2 e2
    obtain ⟨n1, d1, o1⟩ := a1
    match ts, e2 with
    | [t1, t2], e2 =>
      obtain ⟨v1, r1, g1, g2, e3, e4, ow1, v2, r2, g3, g4, e5, e6, ow2, e7, e8⟩ := o1
      subst e7 e8 e5 e6 e3 e4
      rw [List.append_nil] at *
      simp only [setSlots] at e2
      split at e2
      · rename_i ρa ea
        split at e2
        · rename_i ρb eb
          cases e2
          obtain ⟨nk, lk, e3⟩ := setSlot_some ea
          subst e3
          obtain ⟨nk2, lk2, e4⟩ := setSlot_some eb
          subst e4
          refine ⟨v1, v2, rfl, ?_⟩
          have nd := List.nodup_append.mp n1
          have ez : zp Z (g1 ++ g3) = zp (zp Z g3) g1 := by
            funext b; simp [zp]; exact ⟨fun h => by rcases h with h | h | h <;> simp [h], fun h => by rcases h with (h | h) | h <;> simp [h]⟩
          rw [ez] at s1 ow1 ow2
          obtain ⟨F2, s2, sub2⟩ := s1.store lk ow1 nd.1 (fun a ha z => z.elim (d1 a (by simp [ha])) fun z => nd.2.2 a ha a z rfl)
          have v2' : Le (vw H1 F1 (zp (zp Z g3) g1)) (vw H1 F2 (zp Z g3)) := vw_le fun b o e m1 m2 => ⟨e, fun z => (List.mem_append.mp (sub2 b z)).elim (fun z => m2 (.inr z)) m1, fun z => m2 (.inl z)⟩
          obtain ⟨F3, s3, sub3⟩ := s2.store lk2 (ow2.view v2') nd.2.1 (fun a ha => d1 a (by simp [ha]))
          refine ⟨Z, _, F3, s3, h1.rebase (x1.put fun a h => ?_) ((Pin.set nk).trans (Pin.set nk2))⟩
          rcases List.mem_append.mp (sub3 a h) with z | z
          · simp [z]
          · rcases List.mem_append.mp (sub2 a z) with z | z <;> simp [z]
        · cases e2
      · cases e2
    | [], e2 => cases e2
    | [_], e2 =>
      simp only [setSlots] at e2
      split at e2 <;> cases e2
    | _ :: _ :: _ :: _, e2 =>
      simp only [setSlots] at e2
      split at e2
      · split at e2 <;> cases e2
      · cases e2
  · exact h1.elim
/-- trees in the air are put into slots, one after another -/
theorem put_all {K : Frag} : ∀ {ks : List Nat} {ts : List T} {vs : List V} {Z : Addr → Prop} {σ : L2.St} {H : Hp} {ρ ρ' : Rho} {F f : List Addr}, setSlots io ks ts ρ = some ρ' → St K (zp Z f) σ H ρ F → f.Nodup → (∀ a ∈ f, ¬ Z a) → OwL K (vw H F (zp Z f)) H ts vs f →
    ∃ F', St K Z ((ks.zip vs).foldl (fun σ p => σ.set p.1 (some p.2)) σ) H ρ' F' ∧ (∀ a ∈ F', a ∈ f ++ F) ∧ Pin io σ ((ks.zip vs).foldl (fun σ p => σ.set p.1 (some p.2)) σ)
  | [], [], vs, Z, σ, H, ρ, ρ', F, f, e, s, nf, dz, o => by
    cases e
    obtain ⟨e1, e2⟩ := o
    subst e1 e2
    rw [zp_nil] at s
    exact ⟨F, s, fun a h => by simpa using h, Pin.refl⟩
  | k :: ks, t :: ts, vs, Z, σ, H, ρ, ρ', F, f, e, s, nf, dz, o => by
    obtain ⟨v, r, f1, f2, e1, e2, ow, o2⟩ := o
    subst e1 e2
    unfold setSlots at e
    split at e
    · rename_i ρ1 e3
      obtain ⟨nk, lk, e4⟩ := setSlot_some e3
      subst e4
      have nd := List.nodup_append.mp nf
      have ez : zp Z (f1 ++ f2) = zp (zp Z f2) f1 := by
        funext b; simp [zp]; exact ⟨fun h => by rcases h with h | h | h <;> simp [h], fun h => by rcases h with (h | h) | h <;> simp [h]⟩
      rw [ez] at s ow o2
      obtain ⟨F2, s2, sub2⟩ := s.store lk ow nd.1 (fun a ha z => z.elim (dz a (by simp [ha])) fun z => nd.2.2 a ha a z rfl)
      have v2 : Le (vw H F (zp (zp Z f2) f1)) (vw H F2 (zp Z f2)) := vw_le fun b o e m1 m2 => ⟨e, fun z => (List.mem_append.mp (sub2 b z)).elim (fun z => m2 (.inr z)) m1, fun z => m2 (.inl z)⟩
      obtain ⟨F3, s3, sub3, p3⟩ := put_all e s2 nd.2.1 (fun a ha => dz a (by simp [ha])) (o2.le v2 fun _ _ _ q => q)
      refine ⟨F3, s3, fun a h => ?_, (Pin.set nk).trans p3⟩
      rcases List.mem_append.mp (sub3 a h) with z | z
      · simp [z]
      · rcases List.mem_append.mp (sub2 a z) with z | z <;> simp [z]
    · cases e
  | [], _ :: _, _, _, _, _, _, _, _, _, e, _, _, _, _ => by cases e
  | _ :: _, [], _, _, _, _, _, _, _, _, e, _, _, _, _ => by cases e
theorem c_par3 {i j l : Nat} {x y z : Str} {d : Expr} {px py pz pt pt2 : Pos} {kt k2 : Nat} {ees : Es} (hc : X.calm = true) (hN : X.N.Nodup) (hi : X.N[i]? = some x) (hj : X.N[j]? = some y) (hl : X.N[l]? = some z) (hij : i ≠ j) (hil : i ≠ l) (hjl : j ≠ l)
    (hx : X.env.scope.names.lookup x = some .local) (hy : X.env.scope.names.lookup y = some .local) (hz : X.env.scope.names.lookup z = some .local) (ha : PA X [a, b, d] (xA φ ca X.K W ees))
    (hw : swappedStores [.Tuple [.Name x px, .Name y py, .Name z pz] kt pt] (.Tuple [a, b, d] k2 pt2) X.env = pure (some [x, y, z])) (hr : PSs X rest (xS ca X.K W io (evS φ io s))) :
    PSs X (.Assign [.Tuple [.Name x px, .Name y py, .Name z pz] kt pt] (.Tuple [a, b, d] k2 pt2) pos :: rest) (xS ca X.K W io (evS φ io (.par [i, j, l] ees s))) := by
  refine PSs.imp (pss_cons (ps_par3 hc hN hi hj hl hij hil hjl hx hy hz ha hw) hr) fun D σ H q => ?_
  obtain ⟨Z, ρ, F, s, q⟩ := q
  unfold evS at q
  refine ⟨Z, ρ, F, s, q.go.imp fun ts ρ1 h1 => fun vs H1 F1 f1 s1 x1 a1 _ => ?_⟩
  split at h1
  · rename_i ρ2 e2
    have hlen : ts.length = 3 := by
      match ts, e2 with
      | [_, _, _], _ => rfl
      | [], e2 => cases e2
      | [_], e2 => simp only [setSlots] at e2; split at e2 <;> cases e2
      | [_, _], e2 =>
        simp only [setSlots] at e2
        split at e2
        · split at e2 <;> cases e2
        · cases e2
      | _ :: _ :: _ :: _ :: _, e2 =>
        simp only [setSlots] at e2
        split at e2
        · split at e2
          · split at e2 <;> cases e2
          · cases e2
        · cases e2
    obtain ⟨n1, d1, o1⟩ := a1
    obtain ⟨F', s2, sub, pn⟩ := put_all e2 s1 n1 d1 o1
    have hv : vs.length = 3 := by rw [← o1.len]; exact hlen
    match vs, hv with
    | [v1, v2, v3], _ => exact ⟨v1, v2, v3, rfl, Z, _, F', s2, h1.rebase (x1.put sub) pn⟩
  · exact h1.elim
end
end Pz
/-! P2l: statements that change what is owned. -/
namespace Pz
open PySem PySem.Spec PyProof.Rows L2
/-! ### lists, dicts: one part put anew -/
theorem OwL.put {K : Frag} {G H : Hp} : ∀ {ts : List T} {vs : List V} {f fu : List Addr} {n : Nat} {u : T} {uv : V}, OwL K G H ts vs f → n < ts.length → Ow K G H u uv fu → (f ++ fu).Nodup →
    ∃ f', OwL K G H (ts.set n u) (vs.set n uv) f' ∧ (∀ a ∈ f', a ∈ f ∨ a ∈ fu) ∧ f'.Nodup
  | [], _, _, _, _, _, _, _, h, _, _ => by cases h
  | t :: ts, _, _, fu, 0, u, uv, x, _, o, nd => by
    obtain ⟨v, r, f1, f2, e1, ef, x1, x2⟩ := x
    subst e1 ef
    refine ⟨fu ++ f2, ⟨uv, r, fu, f2, rfl, rfl, o, x2⟩, fun a h => ?_, ?_⟩
    · rcases List.mem_append.mp h with h | h <;> simp [h]
    · rw [List.append_assoc] at nd
      have h := (List.nodup_append.mp nd).2.1
      exact (List.perm_append_comm.nodup_iff).mp h
  | t :: ts, _, _, fu, n + 1, u, uv, x, hn, o, nd => by
    obtain ⟨v, r, f1, f2, e1, ef, x1, x2⟩ := x
    subst e1 ef
    rw [List.append_assoc] at nd
    have h := List.nodup_append.mp nd
    obtain ⟨f', h1, h2, h3⟩ := OwL.put (n := n) x2 (by simpa using hn) o h.2.1
    refine ⟨f1 ++ f', ⟨v, r.set n uv, f1, f', rfl, rfl, x1, h1⟩, fun a ha => ?_, List.nodup_append.mpr ⟨h.1, h3, fun a ha b hb z => ?_⟩⟩
    · rcases List.mem_append.mp ha with z | z
      · simp [z]
      · rcases h2 a z with z | z <;> simp [z]
    · subst z
      exact h.2.2 a ha a (by rcases h2 a hb with z | z <;> simp [z]) rfl
theorem putK_same {k : Key} {v x : V} {r : List (Key × V)} (h : k ∉ r.map (·.1)) : putK ((k, v) :: r) k x = (k, x) :: r := by
  unfold putK
  rw [if_pos (by simp)]
  simp only [List.map_cons, if_true]
  congr 1
  conv => rhs; rw [← List.map_id r]
  refine List.map_congr_left fun p hp => ?_
  rw [if_neg]
  · rfl
  · exact fun z => h (z ▸ List.mem_map_of_mem hp)
theorem putK_other {j k : Key} {v x : V} {r : List (Key × V)} (h : j ≠ k) : putK ((j, v) :: r) k x = (j, v) :: putK r k x := by
  unfold putK
  have e : (((j, v) :: r).any fun kv => decide (kv.1 = k)) = r.any fun kv => decide (kv.1 = k) := by simp [h]
  rw [e]
  split
  · simp [h]
  · rfl
theorem OwD.keys {K : Frag} {G H : Hp} : ∀ {ts : List (Key × T)} {vs : List (Key × V)} {f : List Addr}, OwD K G H ts vs f → ts.map (·.1) = vs.map (·.1)
  | [], _, _, x => by rw [x.1]; rfl
  | (k, t) :: ts, _, _, x => by
    obtain ⟨v, r, f1, f2, e1, ef, x1, x2⟩ := x
    subst e1
    simp [OwD.keys x2]
theorem putT_mem {kvs : List (Key × T)} {k : Key} {u : T} : ∀ j, j ∈ (putT kvs k u).map (·.1) → j ∈ kvs.map (·.1) ∨ j = k := by
  induction kvs with
  | nil => intro j h; simp [putT] at h; exact .inr h
  | cons p r ih =>
    intro j h
    unfold putT at h
    by_cases e : p.1 = k
    · rw [if_pos e] at h
      simp at h ⊢
      rcases h with h | h
      · exact .inl (.inl h)
      · exact .inl (.inr h)
    · rw [if_neg e] at h
      rw [List.map_cons, List.mem_cons] at h
      rcases h with h | h
      · left; simp [h]
      · rcases ih j h with z | z
        · left; rw [List.map_cons]; exact List.mem_cons_of_mem _ z
        · exact .inr z
theorem putT_nodup {kvs : List (Key × T)} {k : Key} {u : T} (h : (kvs.map (·.1)).Nodup) : ((putT kvs k u).map (·.1)).Nodup := by
  induction kvs with
  | nil => simp [putT]
  | cons p r ih =>
    rw [List.map_cons, List.nodup_cons] at h
    unfold putT
    by_cases e : p.1 = k
    · rw [if_pos e, List.map_cons, List.nodup_cons]
      exact h
    · rw [if_neg e, List.map_cons, List.nodup_cons]
      refine ⟨fun z => ?_, ih h.2⟩
      rcases putT_mem p.1 z with z | z
      · exact h.1 z
      · exact e z
theorem OwD.put {K : Frag} {G H : Hp} : ∀ {ts : List (Key × T)} {vs : List (Key × V)} {f fu : List Addr} {k : Key} {u : T} {uv : V}, OwD K G H ts vs f → (ts.map (·.1)).Nodup → Ow K G H u uv fu → (f ++ fu).Nodup →
    ∃ f', OwD K G H (putT ts k u) (putK vs k uv) f' ∧ (∀ a ∈ f', a ∈ f ∨ a ∈ fu) ∧ f'.Nodup
  | [], _, _, fu, k, u, uv, x, _, o, nd => by
    obtain ⟨e1, e2⟩ := x
    subst e1 e2
    exact ⟨fu, ⟨uv, [], fu, [], rfl, by simp, o, rfl, rfl⟩, fun a h => .inr h, by simpa using nd⟩
  | (j, t) :: ts, _, _, fu, k, u, uv, x, hk, o, nd => by
    have hkeys := OwD.keys x
    obtain ⟨v, r, f1, f2, e1, ef, x1, x2⟩ := x
    subst e1 ef
    rw [List.map_cons, List.nodup_cons] at hk
    unfold putT
    by_cases h : j = k
    · subst h
      rw [if_pos rfl, putK_same (by rw [← OwD.keys x2]; exact hk.1)]
      refine ⟨fu ++ f2, ⟨uv, r, fu, f2, rfl, rfl, o, x2⟩, fun a h => ?_, ?_⟩
      · rcases List.mem_append.mp h with h | h <;> simp [h]
      · rw [List.append_assoc] at nd
        exact (List.perm_append_comm.nodup_iff).mp (List.nodup_append.mp nd).2.1
    · rw [if_neg h, putK_other h]
      rw [List.append_assoc] at nd
      have hn := List.nodup_append.mp nd
      obtain ⟨f', h1, h2, h3⟩ := OwD.put (k := k) x2 hk.2 o hn.2.1
      refine ⟨f1 ++ f', ⟨v, putK r k uv, f1, f', rfl, rfl, x1, h1⟩, fun a ha => ?_, List.nodup_append.mpr ⟨hn.1, h3, fun a ha b hb z => ?_⟩⟩
      · rcases List.mem_append.mp ha with z | z
        · simp [z]
        · rcases h2 a z with z | z <;> simp [z]
      · subst z
        exact hn.2.2 a ha a (by rcases h2 a hb with z | z <;> simp [z]) rfl
theorem OwL.rev {K : Frag} {G H : Hp} : ∀ {ts : List T} {vs : List V} {f : List Addr}, OwL K G H ts vs f → ∃ f', OwL K G H ts.reverse vs.reverse f' ∧ f'.Perm f
  | [], _, _, x => by
    obtain ⟨e1, e2⟩ := x
    subst e1 e2
    exact ⟨[], ⟨rfl, rfl⟩, List.Perm.refl _⟩
  | t :: ts, _, _, x => by
    obtain ⟨v, r, f1, f2, e1, ef, x1, x2⟩ := x
    subst e1 ef
    obtain ⟨f', h1, h2⟩ := OwL.rev x2
    rw [List.reverse_cons, List.reverse_cons]
    exact ⟨f' ++ f1, h1.append (OwL.one x1), (List.Perm.append_right f1 h2).trans List.perm_append_comm⟩
section
variable {X : Cx} {φ : Nat → List T → FR} {ca : Nat → Addr} {W : WX} {io : List Nat} {e a b c : Expr} {ee ea eb ec : E} {pos apos pos' cpos : Pos} {rest : List Stmt} {s : S}
/-- a container is written in place -/
theorem write_ok {fn : T → Option (Unit × T)} {k : Nat} {st : List Step} {Z : Addr → Prop} {σ : L2.St} {H1 : Hp} {ρ1 : Rho} {F1 f : List Addr} {t t' : T} {ds : List D} {x : V}
    (s : St X.K (zp Z f) σ H1 ρ1 F1) (nf : f.Nodup) (df : ∀ a ∈ f, ¬ Z a) (e : getSlot ρ1 k = some t) (es : stepsD ρ1 st = some ds) (he : onPath fn ds t = some ((), t'))
    (same : ∀ v' ys' w', σ[k]? = some (some v') → stepsV σ st ys' → ChainV H1 ys' v' w' → x = w') :
    ∃ c c' fw G, fn c = some ((), c') ∧ Le (vw H1 F1 (zp Z f)) G ∧ Le G H1 ∧ Ow X.K G H1 c x fw ∧ fw.Nodup ∧ (∀ a ∈ fw, a ∉ f) ∧
      ∀ p o fw', p ∈ fw → (∀ a ∈ fw', a ∈ f ∨ a ∈ fw) → fw'.Nodup → (∀ G', Le G G' → Ow X.K G' (upd H1 p o) c' x fw') → ∃ F', St X.K Z σ (upd H1 p o) (ρ1.set k (some t')) F' ∧ Ext false H1 (F1 ++ f) (upd H1 p o) F' := by
  obtain ⟨v, c, c', w, fw, G, e1, h1, g1, g2, o1, ch, hk, wF, nw, go⟩ := s.edit e he df
  have ex := same v _ w e1 (stepsV_of s es hk) ch
  subst ex
  refine ⟨c, c', fw, G, h1, g1, g2, o1, nw, fun a ha hf => s.dz a (wF a ha) (.inr hf), fun p o fw' hp sub nd' ow => ?_⟩
  obtain ⟨F', s2, sub', le⟩ := go (upd H1 p o) fw' (fun b u q n => by rw [upd_ne (fun (z : b = p) => n (by rw [z]; exact hp))]; exact q) (fun b u q => by
    by_cases z : b = p
    · subst z; exact ⟨_, upd_same⟩
    · rw [upd_ne z]; exact ⟨u, q⟩) sub nd' ow
  refine ⟨F', s2, ⟨fun b u q n => ?_, fun b hb => .inl ?_, fun z => by cases z⟩⟩
  · rw [upd_ne (fun (z : b = p) => n (by rw [z]; simp [wF p hp]))]; exact q
  · rcases sub' b hb with z | z <;> simp [z]
/-- a path leads to a list or a dict -/
theorem con_path {k : Nat} {st : List Step} {Z : Addr → Prop} {σ : L2.St} {H : Hp} {ρ : Rho} {F : List Addr} (s : St X.K Z σ H ρ F) (h : isCon ρ k st = true) : ∃ v ys w, σ[k]? = some (some v) ∧ stepsV σ st ys ∧ ChainV H ys v w := by
  unfold isCon at h
  split at h
  · rename_i t ds e1 e2
    obtain ⟨v, ys, w, c, a, c', fw, h1, h2, h3, h4, o⟩ := s.path e1 e2 h
    exact ⟨v, ys, w, h1, h2, h3⟩
  · cases h
def rSetAny : TSet := fun o i v H Q => rSetL o i v H Q ∨ ∃ a H', o = .ref a ∧ DPut H a i v H' ∧ Q H'
theorem set_any (hu : X.A.units + 1 < cLine) : PSet X rSetAny := by
  intro pins s σ H o i v ov iv u Q I ro ri rv h
  rcases h with h | ⟨a, H', e, g, q⟩
  · exact set_list pins s σ H o i v ov iv u Q I ro ri rv h
  · subst e
    obtain rfl : ov = Value.ref a := ro
    exact d_setItem hu I g ri rv fun s4 I4 => ⟨H', I4, q⟩
theorem key_V {G : Hp} {K : Frag} {d : D} {k : Key} {v : V} (h : keyOf d = some k) (r : Rp K G d v) : v = kV k := by
  cases d with
  | int i => cases h; exact r
  | str i => cases h; exact r
  | _ => cases h
/-- storing by values -/
theorem store_ok {k : Nat} {st : List Step} {Z : Addr → Prop} {σ : L2.St} {H1 : Hp} {ρ1 : Rho} {F1 f : List Addr} {t t' u : T} {d : D} {ds : List D} {x y uv : V} {Q : Hp → Prop}
    (s : St X.K (zp Z f) σ H1 ρ1 F1) (nf : f.Nodup) (df : ∀ a ∈ f, ¬ Z a) (ou : Ow X.K (vw H1 F1 (zp Z f)) H1 u uv f) (ry : Rp X.K (vw H1 F1 (zp Z f)) d y) (e : getSlot ρ1 k = some t) (es : stepsD ρ1 st = some ds) (he : onPath (storeT d u) ds t = some ((), t'))
    (same : ∀ v' ys' w', σ[k]? = some (some v') → stepsV σ st ys' → ChainV H1 ys' v' w' → x = w') (q : ∀ H' F', St X.K Z σ H' (ρ1.set k (some t')) F' → Ext false H1 (F1 ++ f) H' F' → Q H') : rSetAny x y uv H1 Q := by
  obtain ⟨c, c', fw, G, h1, g1, g2, o1, nw, dis, go⟩ := write_ok s nf df e es he same
  cases c with
  | lst ts =>
    obtain ⟨p, vs, f0, e2, hp, ef, r⟩ := o1
    subst ef
    have npf := List.nodup_cons.mp nw
    unfold storeT at h1
    simp only at h1
    split at h1
    · rename_i kk
      split at h1
      · rename_i n hn
        cases h1
        have hl := (ixN_seq hn).2.1
        refine .inl ⟨p, vs, kk, n, e2, ry, hp, by rw [← r.len]; exact hn, ?_⟩
        obtain ⟨f', i1, i2, i3⟩ := r.put hl (ou.view g1) (List.nodup_append.mpr ⟨npf.2, nf, fun a ha b hb z => dis a (by simp [ha]) (z ▸ hb)⟩)
        have np' : p ∉ f' := fun z => by
          rcases i2 p z with z | z
          · exact npf.1 z
          · exact dis p (by simp) z
        obtain ⟨F', s2, x2⟩ := go p (.lst (vs.set n uv)) (p :: f') (by simp) (fun a h => by
          rcases List.mem_cons.mp h with z | z
          · exact .inr (by simp [z])
          · rcases i2 a z with z | z
            · exact .inr (by simp [z])
            · exact .inl z) (List.nodup_cons.mpr ⟨np', i3⟩) fun G' l => ⟨p, _, f', e2, upd_same, rfl, i1.le l fun a ha o q => by rw [upd_ne (fun (z : a = p) => np' (by rw [← z]; exact ha))]; exact q⟩
        exact q _ F' s2 x2
      · cases h1
    · cases h1
  | dct kvs =>
    obtain ⟨p, ws, f0, e2, hp, ef, nk, r⟩ := o1
    subst ef
    have npf := List.nodup_cons.mp nw
    unfold storeT at h1
    simp only at h1
    split at h1
    · rename_i kk hk
      split at h1
      · rename_i hl
        cases h1
        have ey := key_V hk ry
        subst ey
        refine .inr ⟨p, _, e2, DPut.k hp (by rw [← r.len]; exact hl), ?_⟩
        obtain ⟨f', i1, i2, i3⟩ := r.put (k := kk) nk (ou.view g1) (List.nodup_append.mpr ⟨npf.2, nf, fun a ha b hb z => dis a (by simp [ha]) (z ▸ hb)⟩)
        have np' : p ∉ f' := fun z => by
          rcases i2 p z with z | z
          · exact npf.1 z
          · exact dis p (by simp) z
        obtain ⟨F', s2, x2⟩ := go p (.dK (putK ws kk uv)) (p :: f') (by simp) (fun a h => by
          rcases List.mem_cons.mp h with z | z
          · exact .inr (by simp [z])
          · rcases i2 a z with z | z
            · exact .inr (by simp [z])
            · exact .inl z) (List.nodup_cons.mpr ⟨np', i3⟩) fun G' l => ⟨p, _, f', e2, upd_same, rfl, putT_nodup nk, i1.le l fun a ha o q => by rw [upd_ne (fun (z : a = p) => np' (by rw [← z]; exact ha))]; exact q⟩
        exact q _ F' s2 x2
      · cases h1
    · cases h1
  | leaf _ => cases h1
  | rng _ _ => cases h1
  | scr _ => cases h1
  | hole _ => cases h1
  | xcp _ _ _ => cases h1
theorem c_store (hu : X.A.units + 1 < cLine) {k : Nat} {st : List Step} (ha : PE X a (xP k st)) (hi : PE X b (xE φ ca X.K W .rd eb)) (he : PE X e (xE φ ca X.K W .mv ee))
    (hst : ∀ v, assign (.Subscript a b pos') X.env v = (do
      let ov ← holding [v] (eval a X.env)
      let iv ← holding [v, ov] (eval b X.env)
      standAt pos'
      holding [v, ov, iv] (setItem ov iv v)
      release [v, ov, iv] []))
    (hs : swapsWithSole [.Subscript a b pos'] e pos.line X.env = pure false) (hw : swappedStores [.Subscript a b pos'] e X.env = pure none) (h1 : (assignEach [.Subscript a b pos'] X.env).map (·.2) = [assign (.Subscript a b pos') X.env])
    (hr : PSs X rest (xS ca X.K W io (evS φ io s))) : PSs X (.Assign [.Subscript a b pos'] e pos :: rest) (xS ca X.K W io (evS φ io (.store k st eb ee s))) := by
  refine PSs.imp (pss_cons (ps_asg he (pg_sub ha hi (set_any hu) hst) hs hw h1) hr) fun D σ H q => ?_
  obtain ⟨Z, ρ, F, s, q⟩ := q
  unfold evS at q
  refine ⟨Z, ρ, F, s, q.go.imp fun u ρ1 h1 => fun uv H1 F1 f1 s1 x1 a1 => ?_⟩
  split at h1
  · rename_i hc
    obtain ⟨v, ys, w, e1, h2, h3⟩ := con_path s1 hc
    refine ⟨v, ys, w, e1, h2, h3, zp Z f1, ρ1, F1, s1, h1.go.rebase x1 fun j ρ2 q2 => fun jv H2 F2 f2 s2 x2 a2 => ?_⟩
    obtain ⟨n1, d1, o1⟩ := a1.mv
    split at q2
    · rename_i t ds d e2 e3 e4
      have ej : j = .leaf d := by cases j <;> cases e4 <;> rfl
      subst ej
      obtain ⟨ef, ry⟩ := ret_leaf a2 s2
      subst ef
      rw [zp_nil] at s2
      rw [List.append_nil] at x2
      split at q2
      · rename_i t' e5
        split at q2
        · rename_i hp
          have hp' : st.isEmpty = true ∨ Le H1 H2 := by
            simp only [Bool.or_eq_true] at hp
            exact hp.imp id x2.pure
          have o2 : Ow X.K (vw H2 F2 (zp Z f1)) H2 u uv f1 := by
            have := o1.step s1 (g := []) (by rw [List.append_nil]; exact x2)
            rw [zp_nil] at this
            exact this
          refine store_ok s2 n1 d1 o2 ry e2 e3 e5 (fun v' ys' w' a1 a2 a3 => path_same e1 h2 h3 a1 a2 a3 hp') fun H' F' s3 x3 => ?_
          refine ⟨Z, _, F', s3, q2.rebase ?_ Pin.refl⟩
          have y1 : Ext false H F H2 (F2 ++ f1) := by
            have x2' : Ext (pureE eb) H1 F1 H2 (F2 ++ []) := by rw [List.append_nil]; exact x2
            exact ((x1.trans x2').mono fun x h => by simpa using h).toF
          exact y1.tr x3
        · exact q2.elim
      · exact q2.elim
    · exact q2.elim
  · exact h1.elim
end
end Pz
/-! P2m: methods that change a list; op=. -/
namespace Pz
open PySem PySem.Spec PyProof.Rows L2
section
variable {X : Cx} {φ : Nat → List T → FR} {ca : Nat → Addr} {W : WX} {io : List Nat} {e a b c : Expr} {ee ea eb ec : E} {pos apos pos' cpos : Pos} {rest : List Stmt} {s : S}
def muName : Mu → Str
  | .append => "append" | .insert => "insert" | .reverse => "reverse"
def muId : Mu → String
  | .append => "list.append" | .insert => "list.insert" | .reverse => "list.reverse"
theorem mu_facts (mu : Mu) : Slot "list" (muName mu) (muId mu) ∧ typeOf (.builtin (muId mu)) = pure (.type "method_descriptor") := by
  cases mu with
  | append => exact ⟨PySem.F.slot_list_append, PySem.F.type_list_append⟩
  | insert => exact ⟨PySem.F.slot_list_insert, PySem.F.type_list_insert⟩
  | reverse => exact ⟨PySem.F.slot_list_reverse, PySem.F.type_list_reverse⟩
def rMu (X : Cx) (mu : Mu) : V → List V → Hp → VK → Prop := fun x xs H Q => ∃ r : V → List V → Hp → VK → Prop, MtR X (muId mu) r ∧ r x xs H Q
theorem mu_any (mu : Mu) : MtR X (muId mu) (rMu X mu) := fun pins s σ H x xs v us Q I rx rs h => by
  obtain ⟨r, h1, h2⟩ := h
  exact h1 pins s σ H x xs v us Q I rx rs h2
theorem mu_ok {mu : Mu} {k : Nat} {st : List Step} {Z : Addr → Prop} {σ : L2.St} {H1 : Hp} {ρ1 : Rho} {F1 f : List Addr} {t t' : T} {us : List T} {vs : List V} {ds : List D} {x : V} {Q : VK}
    (s : St X.K (zp Z f) σ H1 ρ1 F1) (tm : TmpL X.K Z H1 F1 us vs f) (e : getSlot ρ1 k = some t) (es : stepsD ρ1 st = some ds) (he : onPath (mutT mu us) ds t = some ((), t'))
    (same : ∀ v' ys' w', σ[k]? = some (some v') → stepsV σ st ys' → ChainV H1 ys' v' w' → x = w') (q : ∀ H' F', St X.K Z σ H' (ρ1.set k (some t')) F' → Ext false H1 (F1 ++ f) H' F' → Q .non H') : rMu X mu x vs H1 Q := by
  obtain ⟨nf, df, ou⟩ := tm
  obtain ⟨c, c', fw, G, h1, g1, g2, o1, nw, dis, go⟩ := write_ok s nf df e es he same
  cases c with
  | lst ts =>
    obtain ⟨p, ws, f0, e2, hp, ef, r⟩ := o1
    subst ef
    have npf := List.nodup_cons.mp nw
    have core : ∀ {ts' : List T} {ws' : List V} {f' : List Addr}, c' = .lst ts' → OwL X.K G H1 ts' ws' f' → (∀ a ∈ f', a ∈ f0 ∨ a ∈ f) → f'.Nodup → Q .non (upd H1 p (.lst ws')) := fun {ts' ws' f'} ec i1 i2 i3 => by
      subst ec
      have np' : p ∉ f' := fun z => by
        rcases i2 p z with z | z
        · exact npf.1 z
        · exact dis p (by simp) z
      obtain ⟨F', s2, x2⟩ := go p (.lst ws') (p :: f') (by simp) (fun a h => by
        rcases List.mem_cons.mp h with z | z
        · exact .inr (by simp [z])
        · rcases i2 a z with z | z
          · exact .inr (by simp [z])
          · exact .inl z) (List.nodup_cons.mpr ⟨np', i3⟩) fun G' l => ⟨p, _, f', e2, upd_same, rfl, i1.le l fun a ha o q => by rw [upd_ne (fun (z : a = p) => np' (by rw [← z]; exact ha))]; exact q⟩
      exact q _ F' s2 x2
    have ndd : (f0 ++ f).Nodup := List.nodup_append.mpr ⟨npf.2, nf, fun a ha b hb z => dis a (by simp [ha]) (z ▸ hb)⟩
    unfold mutT at h1
    simp only at h1
    split at h1
    · -- append
      rename_i u
      split at h1
      · rename_i hl
        cases h1
        obtain ⟨v1, r1, g1', g2', e3, e4, ow1, e5, e6⟩ := ou
        subst e3 e4 e5 e6
        rw [List.append_nil] at *
        refine ⟨_, mt_append, p, ws, v1, e2, rfl, hp, by rw [← r.len]; exact hl, core rfl (r.append (OwL.one (ow1.view g1))) (fun a h => (List.mem_append.mp h)) ndd⟩
      · cases h1
    · -- insert
      rename_i i u
      split at h1
      · rename_i hl
        cases h1
        obtain ⟨v0, r0, f1, f2, e3, e4, ow0, ou2⟩ := ou
        obtain ⟨v1, r1, g1', g2', e3', e4', ow1, e5, e6⟩ := ou2
        obtain ⟨ei, ef0⟩ := ow0
        subst e3' e4' e5 e6 e3 ef0 e4
        rw [List.nil_append, List.append_nil] at *
        obtain ⟨hi, hl⟩ := hl
        subst hi
        refine ⟨_, mt_insert, p, ws, 0, v1, e2, by rw [show v0 = .int 0 from ei], hp, by rw [← r.len]; exact hl, Int.le_refl 0, by decide, ?_⟩
        have ez : ws.take (0 : Int).toNat ++ [v1] ++ ws.drop (0 : Int).toNat = v1 :: ws := by simp
        rw [ez]
        exact core (f' := g1' ++ f0) rfl ⟨v1, ws, g1', f0, rfl, rfl, ow1.view g1, r⟩ (fun a h => (List.mem_append.mp h).symm) (List.perm_append_comm.nodup_iff.mp ndd)
      · cases h1
    · -- reverse
      cases h1
      obtain ⟨e3, e4⟩ := ou
      subst e3 e4
      obtain ⟨f', i1, i2⟩ := r.rev
      exact ⟨_, mt_reverse, p, ws, e2, rfl, hp, core rfl i1 (fun a h => .inl (i2.mem_iff.mp h)) (i2.nodup_iff.mpr npf.2)⟩
    · cases h1
  | leaf _ => cases mu <;> cases h1
  | rng _ _ => cases mu <;> cases h1
  | scr _ => cases mu <;> cases h1
  | hole _ => cases mu <;> cases h1
  | xcp _ _ _ => cases mu <;> cases h1
  | dct _ => cases mu <;> cases h1
theorem mut_core {mu : Mu} {k : Nat} {st : List Step} {ees : Es} {D : Ends} {σ : L2.St} {H : Hp} (q : xS ca X.K W io (evS φ io (.mut k st mu ees s)) D σ H) :
    xP k st σ H fun x H1 => tyV X.K "list" x H1 ∧ xA φ ca X.K W ees σ H1 fun xs H2 => rMu X mu x xs H2 fun _ H3 => xS ca X.K W io (evS φ io s) D σ H3 := by
  obtain ⟨Z, ρ, F, s, q⟩ := q
  unfold evS at q
  split at q
  · rename_i h
    refine recv s h fun v ys w e1 h1 h2 ty => ⟨ty, Z, ρ, F, s, q.go.imp fun us ρ1 q1 => fun vs H1 F1 f1 s1 x1 a1 _ => ?_⟩
    split at q1
    · rename_i t ds e2 e3
      split at q1
      · rename_i t' e5
        split at q1
        · rename_i hp
          have hp' : st.isEmpty = true ∨ Le H H1 := by
            simp only [Bool.or_eq_true] at hp
            exact hp.imp id x1.pure
          exact mu_ok s1 a1 e2 e3 e5 (fun v' ys' w' a1 a2 a3 => path_same e1 h1 h2 a1 a2 a3 hp') fun H' F' s3 x3 => ⟨Z, _, F', s3, q1.rebase (x1.toF.tr x3) Pin.refl⟩
        · exact q1.elim
      · exact q1.elim
    · exact q1.elim
  · exact q.elim
theorem c_mut0 {mu : Mu} {k : Nat} {st : List Step} (ha : PE X a (xP k st)) (hb : attributeBase a (muName mu) X.env (eval a X.env) = eval a X.env) (hl : (apos.endLine == cpos.line) = true)
    (hr : PSs X rest (xS ca X.K W io (evS φ io s))) : PSs X (.Expr (.Call (.Attribute a (muName mu) apos) [] [] cpos) pos :: rest) (xS ca X.K W io (evS φ io (.mut k st mu .nil s))) := by
  obtain ⟨sl, ty⟩ := mu_facts mu
  refine PSs.imp (pss_cons (ps_expr (pe_bm0 PySem.F.plainAttrs_list sl ty (mu_any mu) ha hb hl)) hr) fun D σ H q => ?_
  obtain ⟨v, ys, w, e1, h1, h2, ty, h3⟩ := mut_core q
  exact ⟨v, ys, w, e1, h1, h2, ty, xA_nil h3⟩
theorem c_mut {mu : Mu} {k : Nat} {st : List Step} {es : List Expr} {ees : Es} (ha : PE X a (xP k st)) (hes : PA X (e :: es) (xA φ ca X.K W ees)) (hb : attributeBase a (muName mu) X.env (eval a X.env) = eval a X.env) (hl : (apos.endLine == cpos.line) = true)
    (hfew : ((backTo cpos (starEach (e :: es) X.env)).all (fun x => !x.1) && (backToKw cpos (keywordEach [] X.env)).all (fun x => x.1.isSome)
      && decide ((e :: es).length + ([] : List Keyword).length + (if ([] : List Keyword).isEmpty then 0 else 1) < 30)) = true)
    (hs : starEach (e :: es) X.env = (false, eval e X.env) :: starEach es X.env) (hplain : (backTo cpos (starEach es X.env)).any (·.1) = false)
    (hr : PSs X rest (xS ca X.K W io (evS φ io s))) : PSs X (.Expr (.Call (.Attribute a (muName mu) apos) (e :: es) [] cpos) pos :: rest) (xS ca X.K W io (evS φ io (.mut k st mu ees s))) := by
  obtain ⟨sl, ty⟩ := mu_facts mu
  exact PSs.imp (pss_cons (ps_expr (pe_bm PySem.F.plainAttrs_list sl ty (mu_any mu) ha hes hb hfew hl hs hplain)) hr) fun D σ H q => mut_core q
theorem c_ext {k : Nat} {st : List Step} (ha : PE X a (xP k st)) (he : PE X e (xE φ ca X.K W .rd ee)) (hb : attributeBase a "extend" X.env (eval a X.env) = eval a X.env) (hl : (apos.endLine == cpos.line) = true)
    (hfew : ((backTo cpos (starEach [e] X.env)).all (fun x => !x.1) && (backToKw cpos (keywordEach [] X.env)).all (fun x => x.1.isSome)
      && decide (([e] : List Expr).length + ([] : List Keyword).length + (if ([] : List Keyword).isEmpty then 0 else 1) < 30)) = true)
    (hs : starEach [e] X.env = (false, eval e X.env) :: starEach [] X.env) (hplain : (backTo cpos (starEach [] X.env)).any (·.1) = false)
    (hr : PSs X rest (xS ca X.K W io (evS φ io s))) : PSs X (.Expr (.Call (.Attribute a "extend" apos) [e] [] cpos) pos :: rest) (xS ca X.K W io (evS φ io (.ext k st ee s))) := by
  refine PSs.imp (pss_cons (ps_expr (pe_bm PySem.F.plainAttrs_list PySem.F.slot_list_extend PySem.F.type_list_extend mt_extend ha (pa_cons he pa_nil hs) hb hfew hl hs hplain)) hr) fun D σ H q => ?_
  obtain ⟨Z, ρ, F, s, q⟩ := q
  unfold evS at q
  split at q
  · rename_i h
    show xP k st σ H fun x H1 => tyV X.K "list" x H1 ∧ (tCons (xE φ ca X.K W .rd ee) tNil) σ H1 fun xs H2 => rExtend x xs H2 fun _ H3 => xS ca X.K W io (evS φ io _) D σ H3
    refine recv s h fun v ys w e1 h1 h2 ty => ⟨ty, ?_⟩
    refine ⟨Z, ρ, F, s, q.go.imp fun u ρ1 q1 => fun uv H1 F1 f1 s1 x1 a1 => ?_⟩
    split at q1
    · rename_i xs t ds eu e2 e3
      obtain ⟨fq, ou⟩ := a1.read s1
      obtain ⟨bb, zs, eb, hb1, rz⟩ := (ou.flat eu).list hid_le
      split at q1
      · rename_i t' e5
        split at q1
        · rename_i hp
          have hp' : st.isEmpty = true ∨ Le H H1 := by
            simp only [Bool.or_eq_true] at hp
            exact hp.imp id x1.pure
          have s1' : St X.K (zp (zp Z f1) []) σ H1 ρ1 F1 := by rw [zp_nil]; exact s1
          obtain ⟨c, c', fw, G, k1, g1, g2, o1, nw, dis, go⟩ := write_ok s1' List.nodup_nil (fun _ z => by cases z) e2 e3 e5 (fun v' ys' w' a1 a2 a3 => path_same e1 h1 h2 a1 a2 a3 hp')
          rw [zp_nil] at g1
          cases c with
          | lst ts =>
            obtain ⟨p, ws, f0, e6, hp1, ef, r⟩ := o1
            subst ef
            have npf := List.nodup_cons.mp nw
            unfold extT at k1
            simp only at k1
            split at k1
            · rename_i hlen
              cases k1
              refine ⟨p, bb, ws, zs, e6, by rw [eb], hp1, hb1, by rw [← r.len, ← rz.len]; exact hlen, ?_⟩
              have i1 : OwL X.K G H1 (ts ++ xs.map .leaf) (ws ++ zs) (f0 ++ []) := r.append (OwL.of_leaves (rz.le g1))
              rw [List.append_nil] at i1
              obtain ⟨F', s2, x2⟩ := go p (.lst (ws ++ zs)) (p :: f0) (by simp) (fun a h => .inr h) nw fun G' l => ⟨p, _, f0, e6, upd_same, rfl, i1.le l fun a ha o q => by rw [upd_ne (fun (z : a = p) => npf.1 (by rw [← z]; exact ha))]; exact q⟩
              rw [List.append_nil] at x2
              exact ⟨Z, _, F', s2.air, q1.rebase (x1.drop.tr x2) Pin.refl⟩
            · cases k1
          | _ => cases k1
        · exact q1.elim
      · exact q1.elim
    · exact q1.elim
  · exact q.elim
/-! ### op= -/
def augAst : Op → Operator := opAst
def rAug (op : Op) : TIp := fun x y H Q => (∃ i j, op = .add ∧ x = .int i ∧ y = .int j ∧ Q (.int (i + j)) H) ∨ (∃ i j, op = .sub ∧ x = .int i ∧ y = .int j ∧ Q (.int (i - j)) H) ∨
  (∃ i j, op = .add ∧ x = .str i ∧ y = .str j ∧ i.length + j.length ≤ sizeLine ∧ Q (.str (i ++ j)) H)
theorem ip_aug {op : Op} : PIp X (opAst op) (rAug op) := by
  intro pins s σ H x y v u Q I rx ry h
  rcases h with ⟨i, j, e, e1, e2, q⟩ | ⟨i, j, e, e1, e2, q⟩ | ⟨i, j, e, e1, e2, hl, q⟩
  · subst e
    exact iop_add pins s σ H x y v u Q I rx ry ⟨i, j, e1, e2, q⟩
  · subst e
    exact iop_sub pins s σ H x y v u Q I rx ry ⟨i, j, e1, e2, q⟩
  · subst e
    exact iop_add_str pins s σ H x y v u Q I rx ry ⟨i, j, e1, e2, hl, q⟩
theorem aug_ok {op : Op} {G G' : Hp} {K : Frag} {x y z : D} {v u : V} {H : Hp} {Q : VK} (h : augD op x y = some z) (rx : Rp K G x v) (ry : Rp K G' y u) (q : ∀ w, (∀ G, Rp K G z w) → Q w H) : rAug op v u H Q := by
  unfold augD at h
  split at h
  · cases h
    exact .inl ⟨_, _, rfl, rx, ry, q _ fun _ => rfl⟩
  · cases h
    exact .inr (.inl ⟨_, _, rfl, rx, ry, q _ fun _ => rfl⟩)
  · split at h
    · rename_i hl
      cases h
      exact .inr (.inr ⟨_, _, rfl, rx, ry, hl, q _ fun _ => rfl⟩)
    · cases h
  · cases h
theorem leafOf_some {t : T} {d : D} (h : leafOf t = some d) : t = .leaf d := by
  cases t <;> cases h <;> rfl
theorem c_aug {op : Op} {k : Nat} {x : Str} (hN : X.N.Nodup) (hi : X.N[k]? = some x) (hx : Loc X.env.scope x) (he : PE X e (xE φ ca X.K W .rd ee)) (hf : X.fn x = true ∨ X.env.scope.names.lookup x = some .local)
    (hr : PSs X rest (xS ca X.K W io (evS φ io s))) : PSs X (.AugAssign (.Name x pos') (opAst op) e pos :: rest) (xS ca X.K W io (evS φ io (.aug k op ee s))) := by
  refine PSs.imp (pss_cons (ps_aug hN hi hx he (ip_aug (op := op)) hf) hr) fun D σ H q => ?_
  obtain ⟨Z, ρ, F, s, q⟩ := q
  unfold evS at q
  split at q
  · rename_i d e0
    obtain ⟨v, f, e1, o, _⟩ := s.get e0
    refine ⟨v, e1, Z, ρ, F, s, q.go.imp fun t ρ1 h1 => fun u H1 F1 f1 s1 x1 a1 => ?_⟩
    split at h1
    · rename_i y' ey
      have := leafOf_some ey
      subst this
      obtain ⟨ef, ry⟩ := ret_leaf a1 s1
      subst ef
      rw [zp_nil] at s1
      rw [List.append_nil] at x1
      split at h1
      · rename_i z ez
        split at h1
        · rename_i ρ2 e2
          obtain ⟨nk, lk, e3⟩ := setSlot_some e2
          subst e3
          refine aug_ok ez o.1 ry fun w rw' => ?_
          have s0 : St X.K (zp Z []) σ H1 ρ1 F1 := by rw [zp_nil]; exact s1
          obtain ⟨F2, s2, sub⟩ := s0.store lk (t := .leaf z) (v := w) (f := []) ⟨rw' _, rfl⟩ List.nodup_nil (fun _ z => by cases z)
          exact ⟨Z, _, F2, s2, h1.rebase (x1.mono fun a h => by simpa using sub a h).toF (Pin.set nk)⟩
        · exact h1.elim
      · exact h1.elim
    · exact h1.elim
  · exact q.elim
/-- o[i], of a list or a dict, by values -/
def rGetAny : V → V → Hp → VK → Prop := fun x y H Q => ∃ a u, x = .ref a ∧ ItemV H a y u ∧ Q u H
theorem get_any (hu : X.A.units + 1 < cLine) : PGet X rGetAny := by
  intro pins s σ H x y v u Q I rx ry h
  obtain ⟨a, w, e, i, q⟩ := h
  subst e
  obtain rfl : v = Value.ref a := rx
  rcases i with ⟨vs, k, n, e1, h1, h2, h3⟩ | ⟨ws, k, e1, h1, h2⟩
  · subst e1
    obtain ⟨t, rfl⟩ := ry
    obtain ⟨its, r, pl, hz⟩ := I.list (SqL.of h1)
    obtain ⟨j1, j2, j3, j4⟩ := ixN_seq h2
    obtain ⟨w', ew, rw'⟩ := r.get h3
    have hl := r.length
    have hn := line63
    have fin : EP X pins σ Q w' s := ⟨w, H, I, rw', q⟩
    by_cases h0 : 0 ≤ k
    · have hj : k.toNat = n := by
        rw [seqIndex_of h0 j4] at j1
        exact Option.some.inj j1
      exact wpAny_getItem_list pl.isList h0 (by omega) (by rw [hj]; simpa using ew) fin
    · have hj : (k + (its.toArray.size : Int)).toNat = n := by
        rw [seqIndex_neg (by omega) j3] at j1
        rw [List.size_toArray, ← hl]
        exact Option.some.inj j1
      exact wpAny_getItem_list_neg pl.isList (by omega) (by rw [List.size_toArray] <;> omega) (by omega) (by rw [hj]; simpa using ew) fin
  · subst e1
    exact d_getItem hu I (h2 ▸ DGet.k h1) ry fun w' s3 I3 rw' => ⟨w, H, I3, rw', q⟩
theorem idx_item {K : Frag} {G H : Hp} {c c' : T} {d x : D} {w y : V} {fw : List Addr} (g : Le G H) (o : Ow K G H c w fw) (h : idxC d c = some (.leaf x, c')) {G' : Hp} (ry : Rp K G' d y) : ∃ a u, w = .ref a ∧ ItemV H a y u ∧ Rp K G x u := by
  have h : idxT c d = some (.leaf x) ∧ isC c ≠ none := by
    unfold idxC at h
    split at h
    · rw [Option.map_eq_some_iff] at h
      obtain ⟨y, h1, h2⟩ := h
      cases h2
      exact ⟨h1, fun z => by cases z⟩
    · rw [Option.map_eq_some_iff] at h
      obtain ⟨y, h1, h2⟩ := h
      cases h2
      exact ⟨h1, fun z => by cases z⟩
    · cases h
  obtain ⟨h, hc⟩ := h
  cases c with
  | lst ts =>
    obtain ⟨p, vs, f, e, hp, _, r⟩ := o
    cases d with
    | int k =>
      obtain ⟨j, hj, hx⟩ := atI_some (show atI ts k = some (.leaf x) from h)
      obtain ⟨v', f', hv, rv, _⟩ := r.get hx
      exact ⟨p, v', e, .inl ⟨vs, k, j, ry, hp, by rw [← r.len]; exact hj, hv⟩, rv.1⟩
    | _ => cases h
  | dct kvs =>
    obtain ⟨p, ws, f, e, hp, _, _, r⟩ := o
    have h' : (match keyOf d with | some k => getK kvs k | none => none) = some (.leaf x) := by
      unfold idxT at h
      cases d <;> exact h
    cases ek : keyOf d with
    | none => rw [ek] at h'; cases h'
    | some k =>
      rw [ek] at h'
      obtain ⟨v', f', hv, rv, _⟩ := r.get h'
      exact ⟨p, v', e, .inr ⟨ws, k, key_V ek ry, hp, hv⟩, rv.1⟩
  | _ => exact absurd rfl hc
theorem c_augS (hu : X.A.units + 1 < cLine) {op : Op} {k : Nat} {st : List Step} (ha : PE X a (xP k st)) (hi : PE X b (xE φ ca X.K W .rd eb)) (he : PE X e (xE φ ca X.K W .rd ee))
    (hst : ∀ ov iv new, augStore b ov iv new = (do holding [new, ov, iv] (setItem ov iv new); release [new, ov, iv] []; pure .next))
    (hr : PSs X rest (xS ca X.K W io (evS φ io s))) : PSs X (.AugAssign (.Subscript a b pos') (opAst op) e pos :: rest) (xS ca X.K W io (evS φ io (.augS k st eb op ee s))) := by
  refine PSs.imp (pss_cons (ps_augS ha hi (get_any hu) he (ip_aug (op := op)) (set_any hu) hst) hr) fun D σ H q => ?_
  obtain ⟨Z, ρ, F, s, q⟩ := q
  unfold evS at q
  split at q
  · rename_i hc
    obtain ⟨v, ys, w, e1, h2, h3⟩ := con_path s hc.1
    refine ⟨v, ys, w, e1, h2, h3, Z, ρ, F, s, q.go.imp fun j ρ1 q1 => fun jv H1 F1 f1 s1 x1 a1 => ?_⟩
    split at q1
    · rename_i t ds d e2 e3 e4
      have := leafOf_some e4
      subst this
      obtain ⟨ef, ry⟩ := ret_leaf a1 s1
      subst ef
      rw [zp_nil] at s1
      rw [List.append_nil] at x1
      split at q1
      · rename_i x t0 e5
        have hp := hc.2
        simp only [Bool.or_eq_true, Bool.and_eq_true] at hp
        have e5' := e5
        obtain ⟨v0, f0, k1, k2, _⟩ := s1.get e2
        obtain ⟨c, c', w0, fw, fr, g1, g2, g3, g4, g5, g6⟩ := Ow.focus e5 k2
        have hw : w = w0 := path_same e1 h2 h3 k1 (stepsV_of s1 e3 g5) g4 (hp.imp id fun z => x1.pure z.1)
        subst hw
        obtain ⟨a', xv, ew, it, rx⟩ := idx_item hid_le g2 g1 ry
        refine ⟨a', xv, ew, it, Z, ρ1, F1, s1, q1.go.rebase0 x1.toF fun y ρ2 q2 => fun yv H2 F2 f2 s2 x2 a2 => ?_⟩
        split at q2
        · rename_i y' ey
          have := leafOf_some ey
          subst this
          obtain ⟨ef2, ry2⟩ := ret_leaf a2 s2
          subst ef2
          rw [zp_nil] at s2
          rw [List.append_nil] at x2
          split at q2
          · rename_i z ez
            refine aug_ok ez rx ry2 fun zw rz => ?_
            split at q2
            · rename_i t2 ds2 e6 e7
              split at q2
              · rename_i t' e8
                have s2' : St X.K (zp Z []) σ H2 ρ2 F2 := by rw [zp_nil]; exact s2
                have view : Le (vw H1 F1 Z) (vw H2 F2 (zp Z [])) := by
                  have x2' : Ext (pureE ee) H1 F1 H2 (F2 ++ []) := by rw [List.append_nil]; exact x2
                  exact x2'.view
                refine store_ok s2' List.nodup_nil (fun _ z => by cases z) (show Ow X.K _ _ (.leaf z) zw [] from ⟨rz _, rfl⟩) (ry.le view) e6 e7 e8 (fun v' ys' w' a1 a2 a3 => path_same e1 h2 h3 a1 a2 a3 (hp.imp id fun z => (x1.pure z.1).trans (x2.pure z.2))) fun H' F' s3 x3 => ?_
                rw [List.append_nil] at x3
                exact ⟨Z, _, F', s3, q2.rebase ((x1.tr x2).tr x3) Pin.refl⟩
              · exact q2.elim
            · exact q2.elim
          · exact q2.elim
        · exact q2.elim
      · exact q1.elim
    · exact q1.elim
  · exact q.elim
end
end Pz
/-! P2y: enumerate and zip over lists, tuples and texts in any mix. -/
namespace Pz
open PySem PySem.Sem
set_option maxHeartbeats 1000000 in
theorem meets_enum1 {v : Value} {o : Obj} {H : Heap → Prop} (B : Begins v o H) :
    Meets (Builtin.«enumerate.__new__» ⟨[.type "enumerate", v], []⟩) (fun _ R s => H s.heap ∧
      R (.ok (.ret (.ref (s.heap.push o).objs.size))) { s with heap := (s.heap.push o).push { cls := .type "enumerate", data := .fields #[.none, .bool false, .ref s.heap.objs.size, rawInt 0, .none, .none] } }) :=
  .of_wp fun prog w A R s h => by
    obtain ⟨hp, g, d, tk, os⟩ := s; obtain ⟨h1, h⟩ := h
    have hsub := sub_enumerate
    have q1 : ∀ {A' : Around} {E : Value → Shared → Prop} {Q : Value → Shared → Prop}, Q (.ref hp.objs.size) ⟨hp.push o, g, d, tk, os⟩ → wpAny (model prog w) A' (pyIter v) Q E ⟨hp, g, d, tk, os⟩ :=
      fun q => B.iter prog w _ _ ⟨hp, g, d, tk, os⟩ _ h1 q
    wp_walk using q1
    refine wpAny_stack_any fun st => wpAny_pure ?_
    split
    · rename_i c _ _ _ _ _
      cases (c == Value.type "enumerate")
      · wp_walk using q1
        exact ⟨_, rfl, h⟩
      · wp_walk using q1
        exact ⟨_, rfl, h⟩
    · wp_walk using q1
      exact ⟨_, rfl, h⟩
theorem enum1 {prog : Program} {w : World} {A : Around} {E : Value → Shared → Prop} {s : Shared} {v : Value} {o : Obj} {H : Heap → Prop} {Q : Value → Shared → Prop} (B : Begins v o H) (h1 : H s.heap)
    (h : ∀ h', IsEnum h' (s.heap.objs.size + 1) s.heap.objs.size 0 .none → h'.get? s.heap.objs.size = some o → h'.objs.size = s.heap.objs.size + 2 →
      (∀ b o, s.heap.get? b = some o → h'.get? b = some o) → Q (.ref (s.heap.objs.size + 1)) { s with heap := h' }) :
    wpAny (model prog w) A (call (.type "enumerate") [v]) Q E s := by
  refine callType_new F.called_enumerate (by decide) (F.typeCall_enumerate_1 _) (F.newCall_enumerate_1 _) (fun obj => F.args_object_init_2 obj _) F.entry_enumerate_new
    (meets_enum1 B) ⟨h1, ?_⟩
  have hz : (s.heap.push o).objs.size = s.heap.objs.size + 1 := Heap.size_push ..
  show _ ∧ _
  rw [hz]
  have he : IsEnum ((s.heap.push o).push { cls := .type "enumerate", data := .fields #[.none, .bool false, .ref s.heap.objs.size, rawInt 0, .none, .none] }) (s.heap.objs.size + 1) s.heap.objs.size 0 .none := by
    have := Heap.get?_push_size (s.heap.push o) (o := { cls := .type "enumerate", data := .fields #[.none, .bool false, .ref s.heap.objs.size, rawInt 0, .none, .none] }) rfl
    rw [hz] at this; exact this
  refine ⟨⟨_, he, rfl⟩, h _ he (Heap.get?_push_of_some _ (Heap.get?_push_size _ B.free)) (by rw [Heap.size_push, hz]) fun b o x => Heap.get?_push_of_some _ (Heap.get?_push_of_some _ x)⟩
end Pz

namespace Pz
open PySem PySem.Spec PyProof.Rows L2
/-- what is walked: a list, a tuple, a text -/
inductive Src where
  | l (a : Addr) | t (a : Addr) | s (z : Str)
def Src.v : Src → V
  | .l a => .ref a | .t a => .ref a | .s z => .str z
def Src.at (K : PySem.W.Frag) (H : Hp) : Src → List V → Prop
  | .l a, xs => SqL K H a xs
  | .t a, xs => SqT K H a xs
  | .s z, xs => xs = z.cps.toList.map fun c => .str ⟨#[c]⟩
def Src.st (tok : Tok) : Src → Addr → Nat → Heap → Prop
  | .l a, it, i, h => h.IsListIter it a i
  | .t a, it, i, h => h.IsTupleIter it a i
  | .s z, it, i, h => h.IsStrIter it (strIterType z) z tok i
def Src.obj (tok : Tok) : Src → Obj
  | .l a => { cls := .type "list_iterator", data := .fields #[.ref a, .int 0 0] }
  | .t a => { cls := .type "tuple_iterator", data := .fields #[.ref a, .int 0 0] }
  | .s z => { cls := .type (strIterType z), data := .fields #[.str z tok, .int 0 0] }
def Src.it (K : PySem.W.Frag) : Src → L2.It
  | .l a => Itl K a
  | .t a => Itt K a
  | .s z => Its z
/-- its own address lies below -/
def Src.below (n : Nat) : Src → Prop
  | .l a => a < n | .t a => a < n | .s _ => True
theorem Src.st_obj {tok : Tok} {it : Addr} {i : Nat} {h : Heap} : ∀ {x : Src}, x.st tok it i h → ∃ o, h.get? it = some o ∧ ∀ v, o.data ≠ .cell v
  | .l a, st => by obtain ⟨o, e, c, d⟩ := st; exact ⟨o, e, fun v z => by rw [d] at z; cases z⟩
  | .t a, st => by obtain ⟨o, e, c, d⟩ := st; exact ⟨o, e, fun v z => by rw [d] at z; cases z⟩
  | .s z, st => by obtain ⟨o, e, c, d⟩ := st; exact ⟨o, e, fun v z => by rw [d] at z; cases z⟩
theorem Src.st_at {tok : Tok} {it : Addr} {i : Nat} {h h' : Heap} : ∀ {x : Src}, x.st tok it i h → (∀ o, h.get? it = some o → h'.get? it = some o) → x.st tok it i h'
  | .l a, ⟨o, e, c⟩, k => ⟨o, k o e, c⟩
  | .t a, ⟨o, e, c⟩, k => ⟨o, k o e, c⟩
  | .s z, ⟨o, e, c⟩, k => ⟨o, k o e, c⟩
theorem Src.st_new {tok : Tok} {it : Addr} {h : Heap} : ∀ {x : Src}, h.get? it = some (x.obj tok) → x.st tok it 0 h
  | .l a, e => ⟨_, e, rfl, rfl⟩
  | .t a, e => ⟨_, e, rfl, rfl⟩
  | .s z, e => ⟨_, e, rfl, rfl⟩
section
variable {X : Cx} {pins : List (Addr × Obj)} {σ : L2.St} {H : Hp} {s : Shared} {xs ys : List V}
theorem Src.inj (I : Inv X pins σ H s) : ∀ {x : Src}, x.at X.K H xs → x.at X.K H ys → xs = ys
  | .l a, h, h' => I.list_inj h h'
  | .t a, h, h' => I.tuple_inj h h'
  | .s z, h, h' => h.trans h'.symm
theorem Src.isBelow (I : Inv X pins σ H s) : ∀ {x : Src}, x.at X.K H xs → x.below s.heap.objs.size
  | .l a, h => by obtain ⟨its, r, p, _⟩ := I.list h; exact p.lt
  | .t a, h => by obtain ⟨its, r, p, _⟩ := I.tuple h; obtain ⟨o, ho, _⟩ := id p; exact Heap.lt_size ho
  | .s z, _ => trivial
theorem chars_get {z : Str} {i : Nat} {c : Nat} (h : z.cps[i]? = some c) : (z.cps.toList.map fun c => V.str ⟨#[c]⟩)[i]? = some (.str ⟨#[c]⟩) := by
  rw [List.getElem?_map, Array.getElem?_toList, h]
  rfl
/-- what its iterator draws -/
theorem Src.draws {A : Around} (I : Inv X pins σ H s) (hh : A.handled = none) {tok : Tok} {it n : Addr} (hn : n ≤ it) : ∀ {x : Src}, x.at X.K H xs → x.below n → ∃ fp St', Draws X.prog X.w A it fp xs.length (fun i u => ∃ y, xs[i]? = some y ∧ RelV y u) St' ∧ it ∈ fp ∧ (∀ b ∈ fp, b = it ∨ b < n) ∧
    (∀ i, x.st tok it i s.heap → St' i s.heap) ∧ ∀ i h, St' i h → x.st tok it i h := by
  have mono : ∀ {fp : List Addr} {n n' : Nat} {P P' : Nat → Value → Prop} {St' : Nat → Heap → Prop}, Draws X.prog X.w A it fp n P St' → n' = n → (∀ i u, P i u → P' i u) → Draws X.prog X.w A it fp n' P' St' := fun D e k => by
    subst e
    exact ⟨D.live, D.frame, fun i s Q E hi st hQ => D.item i s Q E hi st fun x h' tk hp => hQ x h' tk (k i x hp), D.done⟩
  intro x
  cases x with
  | l a =>
    intro hx hb
    obtain ⟨its, rv, p, _⟩ := I.list hx
    have hl := rv.length
    refine ⟨_, _, mono (Draws.list hh it a (Nat.ne_of_lt (Nat.lt_of_lt_of_le hb hn)) its.toArray) (by simp [hl]) fun i u e => ?_, by simp, fun b hb' => ?_, fun i st => ⟨st, p.isList⟩, fun i h st => st.1⟩
    · have e' : its[i]? = some u := by simpa using e
      have hi : i < xs.length := by rw [hl]; exact (List.getElem?_eq_some_iff.mp e').1
      obtain ⟨w, hw, rw'⟩ := rv.get (List.getElem?_eq_getElem hi)
      rw [e'] at hw
      cases hw
      exact ⟨_, List.getElem?_eq_getElem hi, rw'⟩
    · have : b = it ∨ b = a := by simpa using hb'
      exact this.imp id fun z => by rw [z]; exact hb
  | t a =>
    intro hx hb
    obtain ⟨its, rv, p, _⟩ := I.tuple hx
    have hl := rv.length
    refine ⟨_, _, mono (Draws.tuple hh it a (Nat.ne_of_lt (Nat.lt_of_lt_of_le hb hn)) its.toArray) (by simp [hl]) fun i u e => ?_, by simp, fun b hb' => ?_, fun i st => ⟨st, p⟩, fun i h st => st.1⟩
    · have e' : its[i]? = some u := by simpa using e
      have hi : i < xs.length := by rw [hl]; exact (List.getElem?_eq_some_iff.mp e').1
      obtain ⟨w, hw, rw'⟩ := rv.get (List.getElem?_eq_getElem hi)
      rw [e'] at hw
      cases hw
      exact ⟨_, List.getElem?_eq_getElem hi, rw'⟩
    · have : b = it ∨ b = a := by simpa using hb'
      exact this.imp id fun z => by rw [z]; exact hb
  | s z =>
    intro hx hb
    cases hx
    refine ⟨_, _, mono (Draws.text hh it z tok) (by simp) fun i u e => ?_, by simp, fun b hb' => .inl (by simpa using hb'), fun i st => st, fun i h st => st⟩
    obtain ⟨c, t, e1, e2⟩ := e
    exact ⟨_, chars_get e1, t, e2⟩
/-! ### enumerate -/
def ItE (K : PySem.W.Frag) (x : Src) : L2.It :=
  ⟨fun i H => ∃ xs y, x.at K H xs ∧ xs[i]? = some y,
    fun i H v H' => ∃ T y, v = .ref T ∧ H T = none ∧ H' = upd H T (.tup [.int (i : Nat), y]) ∧ ∀ xs, x.at K H xs → xs[i]? = some y,
    fun i H => ∃ xs, x.at K H xs ∧ xs.length = i⟩
theorem turn_enumA {P : Program} {w : World} {K : PySem.W.Frag} {elts : List Expr} {kk : Nat} {tpos : Pos} (tok : Tok) (x : Src) (it e : Addr) (hx : x.below it) (hie : it < e) :
    Turn P w K (.Tuple elts kk tpos) (ItE K x) [e, it] e (fun i h => (∃ old, IsEnum h e it ((i : Nat) : Int) old) ∧ x.st tok it i h) where
  mem := by simp
  obj := fun i h st b hb => by
    obtain ⟨⟨old, he⟩, hi⟩ := st
    have e' : b = e ∨ b = it := by simpa using hb
    rcases e' with z | z
    · rw [z]; exact ⟨_, he, fun v q => nomatch q⟩
    · rw [z]; exact Src.st_obj hi
  keep := fun i h h' st k => let ⟨⟨old, he⟩, hi⟩ := st; ⟨⟨old, k e (by simp) _ he⟩, Src.st_at hi fun o q => k it (by simp) o q⟩
  item := by
    intro X hP hw hK hc i pins s σ H E I hf st hg
    subst hP hw hK
    obtain ⟨⟨old, he⟩, hit⟩ := st
    obtain ⟨xs, y, hq, hy⟩ := hg
    obtain ⟨fp, St', D, hm, hfp, to, fro⟩ := Src.draws (A := X.A.in1) I (I.ok.hd hc) (tok := tok) (Nat.le_refl it) hq hx
    have hel : e < s.heap.objs.size := Heap.lt_size he
    have hne : e ≠ it := Nat.ne_of_gt hie
    have hef : e ∉ fp := fun z => by
      rcases hfp e z with q | q
      · exact hne q
      · exact absurd (Nat.lt_trans q hie) (Nat.lt_irrefl _)
    refine wpAny_pyNext_enum_itemD D he (to i hit) (List.getElem?_eq_some_iff.mp hy).1 hne hef fun u h' tk hu ho hit' hT hsz hk => ?_
    obtain ⟨y', hy', ru⟩ := hu
    rw [hy] at hy'
    cases hy'
    refine ⟨_, rfl, wpAny_letOwnedTupleGo_enum (s := { s with heap := h', toks := tk + 1 }) ho fun h'' he' sb => ?_⟩
    have hT2 : h''.get? s.heap.objs.size = some { cls := .type "tuple", data := .seq #[.int i tk, u] } := (sb.2 _ (Nat.ne_of_gt hel)).trans hT
    have new : ObjOk X.prog X.w (upd H s.heap.objs.size (.tup [.int (i : Nat), y])) h'' s.heap.objs.size (.tup [.int (i : Nat), y]) :=
      ⟨by show 2 ≤ sizeLine; decide, [.int i tk, u], .cons ⟨_, rfl⟩ (.cons ru .nil), ⟨_, hT2, rfl, _, rfl⟩⟩
    have I1 : Inv X pins σ (upd H s.heap.objs.size (.tup [.int (i : Nat), y])) { s with heap := h'', toks := tk + 1 } :=
      I.turnedNew (ch := [e, it]) (fun b ob hb q => (sb.2 b (fun z => hb (by simp [z]))).trans (hk b ob (fun z => hb (by simp [z])) (fun z => hb (by simp [z])) q)) hf (Nat.le_refl _) new
    refine ⟨.ref s.heap.objs.size, _, I1, rfl, ⟨_, y, rfl, I.hok.fresh (Nat.le_refl _), rfl, fun ys hys => by rw [Src.inj I hys hq]; exact hy⟩, ⟨⟨u, ?_⟩, Src.st_at (fro _ _ hit') fun o q => (sb.2 it (Ne.symm hne)).trans q⟩, fun b hb => ?_⟩
    · have e1 : ((i + 1 : Nat) : Int) = (i : Int) + 1 := by omega
      rw [e1]; exact he'
    · have hb' : b < s.heap.objs.size := by
        have e' : b = e ∨ b = it := by simpa using hb
        rcases e' with z | z
        · rw [z]; exact hel
        · rw [z]; exact Nat.lt_trans hie hel
      rw [upd_ne (Nat.ne_of_lt hb')]
      exact (hf b hb).1
  done := by
    intro X hP hw hK hc i pins s σ H E I hf st hg
    subst hP hw hK
    obtain ⟨⟨old, he⟩, hit⟩ := st
    obtain ⟨xs, hq, hxs⟩ := hg
    obtain ⟨fp, St', D, hm, hfp, to, fro⟩ := Src.draws (A := X.A.in1) I (I.ok.hd hc) (tok := tok) (Nat.le_refl it) hq hx
    obtain ⟨f0, f1, f2, f3, f4, f5⟩ := hf it (by simp)
    exact wpAny_pyNext_enum_endD D he (by rw [hxs]; exact to i hit) fun h' eb => ⟨rfl, I.turned (t' := s.toks) (fun b o hb q => eb b o hb q) f0 f1 f3 f4 f5⟩
  self := fun A i s Q E st h => let ⟨⟨_, he⟩, _⟩ := st; wpAny_pyIter_enum he h
theorem Src.begins (I : Inv X pins σ H s) {u : Value} : ∀ {x : Src}, x.at X.K H xs → RelV x.v u → ∃ tok Hx, Begins u (x.obj tok) Hx ∧ Hx s.heap
  | .l a, h, r => by
    cases r
    obtain ⟨its, _, p, _⟩ := I.list h
    exact ⟨0, _, begins_list a its.toArray, p.isList⟩
  | .t a, h, r => by
    cases r
    obtain ⟨its, _, p, _⟩ := I.tuple h
    exact ⟨0, _, begins_tuple a its.toArray, p⟩
  | .s z, h, r => by
    obtain ⟨t, rfl⟩ := r
    exact ⟨t, _, begins_text z t, trivial⟩
def iEnumA (K : PySem.W.Frag) (ta : TA) : TI := fun σ H R => ta σ H fun vs H1 => ∃ (x : Src) (xs : List V), vs = [x.v] ∧ x.at K H1 xs ∧ R (ItE K x) H1
theorem pi_enumA {e : Expr} {ta : TA} {p pos tpos : Pos} {elts : List Expr} {kk : Nat} (hg : Gl X "enumerate") (hm : X.mg "enumerate" = none) (ha : PA X [e] ta) (hs : starEach [e] X.env = [(false, eval e X.env)]) :
    PI X (.Tuple elts kk tpos) (.Call (.Name "enumerate" p) [e] [] pos) (iEnumA X.K ta) := by
  refine ⟨fun pins s σ H R I h => ?_⟩
  refine Call_ (ld_blt I hg hm boot_enumerate (PyProof.Rows.callWith_type1 (thn (ha.run pos pins s σ H _ I h) fun us s1 ⟨vs, H1, I1, r1, q1⟩ => ?_) hs rfl))
  obtain ⟨x, xs, ex, hq, q⟩ := q1
  subst ex
  cases r1 with
  | cons r rr =>
    cases rr
    obtain ⟨tok, Hx, B, hx⟩ := Src.begins I1 hq r
    refine enum1 B hx fun h' he hit hsz hk => wpAny_pyIter_enum he ?_
    have I2 : Inv X pins σ H1 { s1 with heap := h' } := I1.kept (t' := s1.toks) hk
    refine ⟨s1.heap.objs.size + 1, [s1.heap.objs.size + 1, s1.heap.objs.size], _, _, H1, rfl, I2, turn_enumA tok x s1.heap.objs.size (s1.heap.objs.size + 1) (Src.isBelow I1 hq) (Nat.lt_succ_self _), ⟨⟨.none, he⟩, Src.st_new hit⟩, fun b hb => ?_, q⟩
    have e' : b = s1.heap.objs.size + 1 ∨ b = s1.heap.objs.size := by simpa using hb
    have hle : s1.heap.objs.size ≤ b := by
      rcases e' with z | z
      · rw [z]; exact Nat.le_add_right _ _
      · rw [z]; exact Nat.le_refl _
    exact I1.fpOk hle (I1.hok.fresh hle)
/-! ### zip -/
def ItZ (K : PySem.W.Frag) (x1 x2 : Src) : L2.It :=
  ⟨fun i H => ∃ xs ys a b, x1.at K H xs ∧ x2.at K H ys ∧ xs[i]? = some a ∧ ys[i]? = some b,
    fun i H v H' => ∃ T a b, v = .ref T ∧ H T = none ∧ H' = upd H T (.tup [a, b]) ∧ (∀ xs, x1.at K H xs → xs[i]? = some a) ∧ ∀ xs, x2.at K H xs → xs[i]? = some b,
    fun i H => ∃ xs ys, x1.at K H xs ∧ x2.at K H ys ∧ i ≤ xs.length ∧ i ≤ ys.length ∧ (i = xs.length ∨ i = ys.length)⟩
theorem ap (n : Nat) {j k : Nat} (h : j ≠ k) : n + j ≠ n + k := by omega
theorem nf_1 {n : Nat} {fp : List Nat} (f : ∀ b ∈ fp, b = n ∨ b < n) {k : Nat} (hk : 0 < k) : n + k ∉ fp := fun z => by rcases f _ z with q | q <;> omega
theorem nf_2 {n : Nat} {fp : List Nat} (f : ∀ b ∈ fp, b = n + 1 ∨ b < n) {k : Nat} (hk : k ≠ 1) : n + k ∉ fp := fun z => by rcases f _ z with q | q <;> omega
theorem sep2 {n : Nat} {fp1 fp2 : List Nat} (m1 : n ∈ fp1) (m2 : n + 1 ∈ fp2) (f1 : ∀ b ∈ fp1, b = n ∨ b < n) (f2 : ∀ b ∈ fp2, b = n + 1 ∨ b < n) : ZipSep2 (n + 4) (n + 2) (n + 3) n (n + 1) fp1 fp2 where
  TIz := ap n (by decide)
  TOz := ap n (by decide)
  TITO := ap n (by decide)
  TIi1 := ap n (j := 2) (k := 0) (by decide)
  mem1 := m1
  zf1 := nf_1 f1 (by decide)
  Tf1 := nf_1 f1 (by decide)
  TIi2 := ap n (by decide)
  mem2 := m2
  zf2 := nf_2 f2 (by decide)
  Tf2 := nf_2 f2 (by decide)
  sep1_2 := nf_2 f2 (k := 0) (by decide)
  sep2_1 := nf_1 f1 (by decide)
theorem five {n : Nat} {c : Nat} (e : c = n + 4 ∨ c = n + 2 ∨ c = n + 3 ∨ c = n ∨ c = n + 1) {m : Nat} (h : n + 4 < m) : c < m := by omega
theorem turn_zipS {P : Program} {w : World} {K : PySem.W.Frag} {elts : List Expr} {kk : Nat} {tpos : Pos} (t1 t2 : Tok) (x1 x2 : Src) (n : Addr) (h1 : x1.below n) (h2 : x2.below n) :
    Turn P w K (.Tuple elts kk tpos) (ItZ K x1 x2) [n + 4, n + 2, n + 3, n, n + 1] (n + 4) (fun i h => IsZip h (n + 4) (n + 2) (n + 3) .none ∧ IsTupOf2 h (n + 2) (.ref n) (.ref (n + 1)) ∧ (∃ a b, IsTupOf2 h (n + 3) a b) ∧ x1.st t1 n i h ∧ x2.st t2 (n + 1) i h) where
  mem := by simp
  obj := fun i h st c hc => by
    obtain ⟨hz, hTI, ⟨x, y, hTO⟩, d1, d2⟩ := st
    have e' : c = n + 4 ∨ c = n + 2 ∨ c = n + 3 ∨ c = n ∨ c = n + 1 := by simpa using hc
    rcases e' with q | q | q | q | q
    · rw [q]; exact ⟨_, hz, fun v q => nomatch q⟩
    · rw [q]; exact ⟨_, hTI, fun v q => nomatch q⟩
    · rw [q]; exact ⟨_, hTO, fun v q => nomatch q⟩
    · rw [q]; exact Src.st_obj d1
    · rw [q]; exact Src.st_obj d2
  keep := fun i h h' st k => by
    obtain ⟨hz, hTI, ⟨x, y, hTO⟩, d1, d2⟩ := st
    exact ⟨k _ (by simp) _ hz, k _ (by simp) _ hTI, ⟨x, y, k _ (by simp) _ hTO⟩, Src.st_at d1 fun o q => k _ (by simp) o q, Src.st_at d2 fun o q => k _ (by simp) o q⟩
  item := by
    intro X hP hw hK hc i pins s σ H E I hf st hg
    subst hP hw hK
    obtain ⟨hz, hTI, ⟨a0, b0, hTO⟩, d1, d2⟩ := st
    obtain ⟨xs, ys, a, b, q1, q2, ha, hb⟩ := hg
    obtain ⟨fp1, St1, D1, m1, f1, to1, fro1⟩ := Src.draws (A := X.A.in1) I (I.ok.hd hc) (tok := t1) (Nat.le_refl n) q1 h1
    obtain ⟨fp2, St2, D2, m2, f2, to2, fro2⟩ := Src.draws (A := X.A.in1) I (I.ok.hd hc) (tok := t2) (Nat.le_add_right n 1) q2 h2
    have S : ZipSep2 (n + 4) (n + 2) (n + 3) n (n + 1) fp1 fp2 := sep2 m1 m2 f1 f2
    have hzl : n + 4 < s.heap.objs.size := Heap.lt_size hz
    refine wpAny_pyNext_zipD2_item S D1 D2 hz hTI hTO (to1 i d1) (to2 i d2) (List.getElem?_eq_some_iff.mp ha).1 (List.getElem?_eq_some_iff.mp hb).1 fun u1 u2 h' tk p1 p2 z' TO' d1' d2' hT hsz hk => ?_
    obtain ⟨a', ha', r1⟩ := p1
    rw [ha] at ha'
    cases ha'
    obtain ⟨b', hb', r2⟩ := p2
    rw [hb] at hb'
    cases hb'
    refine ⟨_, rfl, wpAny_letOwnedTupleGo_zip (s := { s with heap := h', toks := tk }) z' fun h'' z'' sb => ?_⟩
    have hT2 : h''.get? s.heap.objs.size = some { cls := .type "tuple", data := .seq #[u1, u2] } := (sb.2 _ (Nat.ne_of_gt hzl)).trans hT
    have new : ObjOk X.prog X.w (upd H s.heap.objs.size (.tup [a, b])) h'' s.heap.objs.size (.tup [a, b]) :=
      ⟨by show 2 ≤ sizeLine; decide, [u1, u2], .cons r1 (.cons r2 .nil), ⟨_, hT2, rfl, _, rfl⟩⟩
    have I1 : Inv X pins σ (upd H s.heap.objs.size (.tup [a, b])) { s with heap := h'', toks := tk } :=
      I.turnedNew (ch := [n + 4, n + 2, n + 3, n, n + 1]) (fun c o hb q => (sb.2 c (fun q' => hb (by simp [q']))).trans (hk c o (fun q' => hb (by simp [q'])) (fun q' => hb (by simp [q'])) (fun q' => hb (by simp [q'])) (fun q' => hb (by simp [q'])) q)) hf (Nat.le_refl _) new
    refine ⟨.ref s.heap.objs.size, _, I1, rfl, ⟨_, a, b, rfl, I.hok.fresh (Nat.le_refl _), rfl, fun l hl => by rw [Src.inj I hl q1]; exact ha, fun l hl => by rw [Src.inj I hl q2]; exact hb⟩, ⟨z'', ?_, ⟨u1, u2, ?_⟩, Src.st_at (fro1 _ _ d1') fun o q => (sb.2 _ S.zi1.symm).trans q, Src.st_at (fro2 _ _ d2') fun o q => (sb.2 _ S.zi2.symm).trans q⟩, fun c hcm => ?_⟩
    · exact (sb.2 _ S.TIz).trans (hk _ _ S.TIz S.TITO S.TIi1 S.TIi2 hTI)
    · exact (sb.2 _ S.TOz).trans TO'
    · have hlt : c < s.heap.objs.size := by
        have e' : c = n + 4 ∨ c = n + 2 ∨ c = n + 3 ∨ c = n ∨ c = n + 1 := by simpa using hcm
        exact five e' hzl
      rw [upd_ne (Nat.ne_of_lt hlt)]
      exact (hf c hcm).1
  done := by
    intro X hP hw hK hc i pins s σ H E I hf st hg
    subst hP hw hK
    obtain ⟨hz, hTI, ⟨a0, b0, hTO⟩, d1, d2⟩ := st
    obtain ⟨xs, ys, q1, q2, l1, l2, hend⟩ := hg
    obtain ⟨fp1, St1, D1, m1, f1, to1, fro1⟩ := Src.draws (A := X.A.in1) I (I.ok.hd hc) (tok := t1) (Nat.le_refl n) q1 h1
    obtain ⟨fp2, St2, D2, m2, f2, to2, fro2⟩ := Src.draws (A := X.A.in1) I (I.ok.hd hc) (tok := t2) (Nat.le_add_right n 1) q2 h2
    have S : ZipSep2 (n + 4) (n + 2) (n + 3) n (n + 1) fp1 fp2 := sep2 m1 m2 f1 f2
    exact wpAny_pyNext_zipD2_end S D1 D2 hz hTI hTO (to1 i d1) (to2 i d2) l1 l2 hend fun h' tk hk => ⟨rfl, I.turnedL (t' := tk) (ch := [n + 4, n + 2, n + 3, n, n + 1]) (fun c o hb q =>
      hk c o (fun q' => hb (by simp [q'])) (fun q' => hb (by simp [q'])) (fun q' => hb (by simp [q'])) (fun q' => hb (by simp [q'])) q) hf⟩
  self := fun A i s Q E st h => wpAny_pyIter_zip st.1 h
def iZipS (K : PySem.W.Frag) (ta : TA) : TI := fun σ H R => ta σ H fun vs H1 => ∃ (x1 x2 : Src) (xs ys : List V), vs = [x1.v, x2.v] ∧ x1.at K H1 xs ∧ x2.at K H1 ys ∧ R (ItZ K x1 x2) H1
theorem pi_zipS {e e2 : Expr} {ta : TA} {p pos tpos : Pos} {elts : List Expr} {kk : Nat} (hg : Gl X "zip") (hm : X.mg "zip" = none) (ha : PA X [e, e2] ta)
    (hs : starEach [e, e2] X.env = (false, eval e X.env) :: starEach [e2] X.env) (hpl : (backTo pos (starEach [e2] X.env)).any (·.1) = false) :
    PI X (.Tuple elts kk tpos) (.Call (.Name "zip" p) [e, e2] [] pos) (iZipS X.K ta) := by
  refine ⟨fun pins s σ H R I h => ?_⟩
  refine Call_ (ld_blt I hg hm PyProof.Rows.boot_zip (PyProof.Rows.callWith_type1 (thn (ha.run pos pins s σ H _ I h) fun us s1 ⟨vs, H1, I1, r1, q1⟩ => ?_) hs hpl))
  obtain ⟨x1, x2, xs, ys, ex, hq1, hq2, q⟩ := q1
  subst ex
  cases r1 with
  | cons r rr =>
    cases rr with
    | cons r' rr =>
      cases rr
      obtain ⟨t1, Hx1, B1, hx1⟩ := Src.begins I1 hq1 r
      obtain ⟨t2, Hx2, B2, hx2⟩ := Src.begins I1 hq2 r'
      refine zip_begins2 B1 B2 hx1 hx2 fun h' hz hTI hTO g1 g2 hsz hk => wpAny_pyIter_zip hz ?_
      have I2 : Inv X pins σ H1 { s1 with heap := h' } := I1.kept (t' := s1.toks) hk
      refine ⟨s1.heap.objs.size + 4, [s1.heap.objs.size + 4, s1.heap.objs.size + 2, s1.heap.objs.size + 3, s1.heap.objs.size, s1.heap.objs.size + 1], _, _, H1, rfl, I2, turn_zipS t1 t2 x1 x2 s1.heap.objs.size (Src.isBelow I1 hq1) (Src.isBelow I1 hq2), ⟨hz, hTI, ⟨_, _, hTO⟩, Src.st_new g1, Src.st_new g2⟩, fun c hcm => ?_, q⟩
      have e' : c = s1.heap.objs.size + 4 ∨ c = s1.heap.objs.size + 2 ∨ c = s1.heap.objs.size + 3 ∨ c = s1.heap.objs.size ∨ c = s1.heap.objs.size + 1 := by simpa using hcm
      have hle : s1.heap.objs.size ≤ c := by
        rcases e' with z | z | z | z | z
        · rw [z]; exact Nat.le_add_right _ _
        · rw [z]; exact Nat.le_add_right _ _
        · rw [z]; exact Nat.le_add_right _ _
        · rw [z]; exact Nat.le_refl _
        · rw [z]; exact Nat.le_add_right _ _
      exact I1.fpOk hle (I1.hok.fresh hle)
/-- anything that is walked by itself -/
theorem pi_src {tg l : Expr} {tl : TE} (hl : PE X l tl) : PI X tg l (fun σ H R => tl σ H fun v H1 => ∃ (x : Src) (xs : List V), v = x.v ∧ x.at X.K H1 xs ∧ R (x.it X.K) H1) := by
  refine ⟨fun pins s σ H R I h => ?_⟩
  refine thn (hl.run pins s σ H _ I h) fun v s1 ⟨y, H1, I1, r1, x, xs, e, hq, q⟩ => ?_
  subst e
  cases x with
  | l a =>
    cases r1
    obtain ⟨its, rv, p, hz⟩ := I1.list hq
    refine wpAny_pyIter_list p.isList ?_
    refine ⟨s1.heap.objs.size, [s1.heap.objs.size], _, _, H1, rfl, I1.kept (t' := s1.toks) fun b o e => Heap.get?_push_of_some _ e, turn_list a _, ⟨_, Heap.get?_push_size _ rfl, rfl, rfl⟩, fun b hb => ?_, q⟩
    have e : b = s1.heap.objs.size := by simpa using hb
    subst e
    exact I1.fpOk (Nat.le_refl _) (I1.hok.fresh (Nat.le_refl _))
  | t a =>
    cases r1
    obtain ⟨its, rv, p, hz⟩ := I1.tuple hq
    refine wpAny_pyIter_tuple (show s1.heap.IsTuple a its.toArray from p) ?_
    refine ⟨s1.heap.objs.size, [s1.heap.objs.size], _, _, H1, rfl, I1.kept (t' := s1.toks) fun b o e => Heap.get?_push_of_some _ e, turn_tuple a _, ⟨_, Heap.get?_push_size _ rfl, rfl, rfl⟩, fun b hb => ?_, q⟩
    have e : b = s1.heap.objs.size := by simpa using hb
    subst e
    exact I1.fpOk (Nat.le_refl _) (I1.hok.fresh (Nat.le_refl _))
  | s z =>
    obtain ⟨t, rfl⟩ := r1
    cases ha : z.cps.all (· < 128)
    · exact wpAny_pyIter_wide ha (pi_one (tk := s1.toks) I1 _ (turn_str _ z t "str_iterator" (.inr rfl)) ⟨_, Heap.get?_push_size _ rfl, rfl, rfl⟩ q)
    · exact wpAny_pyIter_ascii ha (pi_one (tk := s1.toks) I1 _ (turn_str _ z t "str_ascii_iterator" (.inl rfl)) ⟨_, Heap.get?_push_size _ rfl, rfl, rfl⟩ q)
end
end Pz
/-! P2n: what is walked. -/
namespace Pz
open PySem PySem.Spec PyProof.Rows L2
/-! ### trees taken out of their slots for a while -/
def RdOk (K : Frag) (Z : Addr → Prop) (H : Hp) (F : List Addr) (t : T) (v : V) : Prop := ∃ fq, Ow K (vw H F Z) H t v fq ∧ ∀ a ∈ fq, a ∉ F
def OpS (K : Frag) (Z : Addr → Prop) (σ : L2.St) (H : Hp) (ρ : Rho) (F : List Addr) (e : E) (t : T) (v : V) : Prop := RdOk K Z H F t v ∨ ∃ k, e = .var k ∧ σ[k]? = some (some v) ∧ getSlot ρ k = some t
def BackP (K : Frag) (σ : L2.St) (H V : Hp) (fo : List Addr) (put : Rho → Rho) (io : List Nat) : Prop :=
  ∀ Zx σ2 H2 ρ2 F2, St K (zp Zx fo) σ2 H2 ρ2 F2 → (∀ a ∈ fo, ¬ Zx a) → Le V (vw H2 F2 (zp Zx fo)) → (∀ a ∈ fo, ∀ o, H a = some o → H2 a = some o) → (∀ k ∈ io, σ2[k]? = σ[k]?) → ∃ F3, St K Zx σ2 H2 (put ρ2) F3 ∧ ∀ a ∈ F3, a ∈ fo ∨ a ∈ F2
section
variable {K : Frag} {Z Z' : Addr → Prop} {σ : L2.St} {H : Hp} {ρ : Rho} {F F' : List Addr}
theorem RdOk.mono {t : T} {v : V} (h : RdOk K Z H F t v) (l : Le (vw H F Z) (vw H F' Z')) (s : ∀ a ∈ F', a ∈ F) : RdOk K Z' H F' t v := by
  obtain ⟨fq, o, n⟩ := h
  exact ⟨fq, o.view l, fun a ha z => n a ha (s a z)⟩
theorem BackP.nil {V : Hp} {io : List Nat} : BackP K σ H V [] (fun ρ => ρ) io := fun Zx σ2 H2 ρ2 F2 s _ _ _ _ => ⟨F2, by rw [zp_nil] at s; exact s, fun a h => .inr h⟩
/-- a tree is put back -/
theorem St.back {k : Nat} {t : T} {v : V} {f : List Addr} (s : St K (zp Z f) σ H ρ F) (hσ : σ[k]? = some (some v)) (o : Ow K (vw H F (zp Z f)) H t v f) (nf : f.Nodup) (dz : ∀ a ∈ f, ¬ Z a) :
    ∃ F3, St K Z σ H (ρ.set k (some t)) F3 ∧ ∀ a ∈ F3, a ∈ f ∨ a ∈ F := by
  have hk : k < ρ.length := by rw [s.len]; exact (List.getElem?_eq_some_iff.mp hσ).1
  obtain ⟨F', s', sub⟩ := s.drop k
  have view : Le (vw H F (zp Z f)) (vw H F' (zp Z f)) := vw_le fun b o e n1 n2 => ⟨e, fun z => n1 (sub b z), n2⟩
  have s2 := s'.put (by rw [List.getElem?_set_self hk]) hσ (o.view view) nf dz
  rw [List.set_set] at s2
  exact ⟨_, s2, fun a h => (List.mem_append.mp h).imp id (sub a)⟩
theorem takeOne (e : E) (s : St K Z σ H ρ F) : ∃ fo F', St K (zp Z fo) σ H (takeOut e ρ) F' ∧ F.Perm (fo ++ F') ∧ fo.Nodup ∧ (∀ a ∈ fo, ¬ Z a) ∧ Le (vw H F Z) (vw H F' (zp Z fo)) ∧
    (∀ e' t v, OpS K Z σ H ρ F e' t v → OpS K (zp Z fo) σ H (takeOut e ρ) F' e' t v) ∧ (∀ t v, OpS K Z σ H ρ F e t v → RdOk K (zp Z fo) H F' t v) ∧ BackP K σ H (vw H F' (zp Z fo)) fo (putIn ρ e) (ioOp e ρ) := by
  have triv : takeOut e ρ = ρ → putIn ρ e = (fun ρ => ρ) → (∀ t v, OpS K Z σ H ρ F e t v → RdOk K Z H F t v) → ∃ fo F', St K (zp Z fo) σ H (takeOut e ρ) F' ∧ F.Perm (fo ++ F') ∧ fo.Nodup ∧ (∀ a ∈ fo, ¬ Z a) ∧ Le (vw H F Z) (vw H F' (zp Z fo)) ∧
      (∀ e' t v, OpS K Z σ H ρ F e' t v → OpS K (zp Z fo) σ H (takeOut e ρ) F' e' t v) ∧ (∀ t v, OpS K Z σ H ρ F e t v → RdOk K (zp Z fo) H F' t v) ∧ BackP K σ H (vw H F' (zp Z fo)) fo (putIn ρ e) (ioOp e ρ) := fun h1 h2 h3 => by
    refine ⟨[], F, ?_, List.Perm.refl _, List.nodup_nil, (fun _ z => by cases z), ?_, ?_, ?_, ?_⟩
    · rw [h1, zp_nil]; exact s
    · rw [zp_nil]; exact Le.refl _
    · rw [h1, zp_nil]; exact fun _ _ _ h => h
    · rw [zp_nil]; exact h3
    · rw [h2]; exact .nil
  cases e with
  | var k =>
    cases q : getSlot ρ k with
    | none =>
      refine triv (by simp [takeOut, q]) (by funext; simp [putIn, q]) fun t v h => ?_
      rcases h with h | ⟨k', e1, e2, e3⟩
      · exact h
      · cases e1
        rw [q] at e3
        cases e3
    | some t0 =>
      cases hf : t0.free with
      | true =>
        refine triv (by simp [takeOut, q, hf]) (by funext; simp [putIn, q, hf]) fun t v h => ?_
        rcases h with h | ⟨k', e1, e2, e3⟩
        · exact h
        · cases e1
          rw [q] at e3
          cases e3
          obtain ⟨v', f, e4, o, hs⟩ := s.get q
          rw [e2] at e4
          cases e4
          have ef : f = [] := by
            cases t0 with
            | leaf d => exact o.2
            | rng _ _ => obtain ⟨_, _, _, z⟩ := o; exact z
            | scr _ => obtain ⟨_, _, _, z⟩ := o; exact z
            | _ => cases hf
          subst ef
          exact ⟨[], o, fun _ z => by cases z⟩
      | false =>
        obtain ⟨v, f, F', e1, o, s', pm, nf, dz⟩ := s.take q
        have hF : ∀ a ∈ F', a ∈ F := fun a h => pm.mem_iff.mpr (by simp [h])
        have view : Le (vw H F Z) (vw H F' (zp Z f)) := vw_le fun b o e n1 n2 => ⟨e, fun z => n1 (hF b z), fun z => z.elim n2 fun z => n1 (pm.mem_iff.mpr (by simp [z]))⟩
        have nd := List.nodup_append.mp (pm.nodup_iff.mp s.nd)
        have rd : RdOk K (zp Z f) H F' t0 v := ⟨f, o, fun a ha z => nd.2.2 a ha a z rfl⟩
        have et : takeOut (.var k) ρ = ρ.set k none := by simp [takeOut, q, hf]
        refine ⟨f, F', by rw [et]; exact s', pm, nf, dz, view, fun e' t v' h => ?_, fun t v' h => ?_, ?_⟩
        · rcases h with h | ⟨k', e2, e3, e4⟩
          · exact .inl (h.mono view hF)
          · subst e2
            by_cases hk : k = k'
            · subst hk
              rw [q] at e4
              cases e4
              rw [e1] at e3
              cases e3
              exact .inl rd
            · refine .inr ⟨k', rfl, e3, ?_⟩
              rw [et, getSlot_iff, List.getElem?_set_ne hk]
              exact getSlot_iff.mp e4
        · rcases h with h | ⟨k', e2, e3, e4⟩
          · exact h.mono view hF
          · cases e2
            rw [q] at e4
            cases e4
            rw [e1] at e3
            cases e3
            exact rd
        · intro Zx σ2 H2 ρ2 F2 s2 dx l kp hio
          have ep : putIn ρ (.var k) ρ2 = ρ2.set k (some t0) := by simp [putIn, q, hf]
          have ei : ioOp (.var k) ρ = [k] := by simp [ioOp, q, hf]
          rw [ep]
          exact s2.back (by rw [hio k (by rw [ei]; simp)]; exact e1) (o.le l kp) nf dx
  | _ =>
    refine triv rfl rfl fun t v h => ?_
    rcases h with h | ⟨k', e1, e2, e3⟩
    · exact h
    · cases e1
/-- operands, one after another -/
def OpSs (K : Frag) (Z : Addr → Prop) (σ : L2.St) (H : Hp) (ρ : Rho) (F : List Addr) : Es → List T → List V → Prop
  | .nil, ts, vs => ts = [] ∧ vs = []
  | .cons e es, ts, vs => ∃ t v ts' vs', ts = t :: ts' ∧ vs = v :: vs' ∧ OpS K Z σ H ρ F e t v ∧ OpSs K Z σ H ρ F es ts' vs'
def RdOks (K : Frag) (Z : Addr → Prop) (H : Hp) (F : List Addr) : List T → List V → Prop
  | [], vs => vs = []
  | t :: ts, vs => ∃ v vs', vs = v :: vs' ∧ RdOk K Z H F t v ∧ RdOks K Z H F ts vs'
theorem RdOks.mono (l : Le (vw H F Z) (vw H F' Z')) (s : ∀ a ∈ F', a ∈ F) : ∀ {ts : List T} {vs : List V}, RdOks K Z H F ts vs → RdOks K Z' H F' ts vs
  | [], _, h => h
  | t :: ts, _, h => by
    obtain ⟨v, vs', e, h1, h2⟩ := h
    exact ⟨v, vs', e, h1.mono l s, h2.mono l s⟩
theorem OpSs.map (h : ∀ e' t v, OpS K Z σ H ρ F e' t v → OpS K Z' σ H ρ' F' e' t v) : ∀ {es : Es} {ts : List T} {vs : List V}, OpSs K Z σ H ρ F es ts vs → OpSs K Z' σ H ρ' F' es ts vs
  | .nil, _, _, q => q
  | .cons e es, _, _, q => by
    obtain ⟨t, v, ts', vs', e1, e2, h1, h2⟩ := q
    exact ⟨t, v, ts', vs', e1, e2, h _ _ _ h1, h2.map h⟩
theorem takeMany : ∀ (es : Es) {Z : Addr → Prop} {ρ : Rho} {F : List Addr}, St K Z σ H ρ F → ∃ fo F', St K (zp Z fo) σ H (takeOuts es ρ) F' ∧ F.Perm (fo ++ F') ∧ fo.Nodup ∧ (∀ a ∈ fo, ¬ Z a) ∧ Le (vw H F Z) (vw H F' (zp Z fo)) ∧
    (∀ ts vs, OpSs K Z σ H ρ F es ts vs → RdOks K (zp Z fo) H F' ts vs) ∧ BackP K σ H (vw H F' (zp Z fo)) fo (putIns0 ρ es) (ioOps0 es ρ)
  | .nil, Z, ρ, F, s => by
    refine ⟨[], F, by rw [zp_nil]; exact s, List.Perm.refl _, List.nodup_nil, (fun _ z => by cases z), by rw [zp_nil]; exact Le.refl _, fun ts vs h => ?_, .nil⟩
    obtain ⟨e1, e2⟩ := h
    subst e1 e2
    exact rfl
  | .cons e es, Z, ρ, F, s => by
    obtain ⟨f1, F1, s1, p1, n1, d1, l1, k1, r1, b1⟩ := takeOne e s
    obtain ⟨f2, F2, s2, p2, n2, d2, l2, r2, b2⟩ := takeMany es s1
    have ez : ∀ Zx : Addr → Prop, zp (zp Zx f1) f2 = zp Zx (f1 ++ f2) := fun Zx => zp_zp
    have sub1 : ∀ a ∈ F1, a ∈ F := fun a h => p1.mem_iff.mpr (by simp [h])
    have sub2 : ∀ a ∈ F2, a ∈ F1 := fun a h => p2.mem_iff.mpr (by simp [h])
    refine ⟨f1 ++ f2, F2, by rw [← ez]; exact s2, p1.trans (by rw [List.append_assoc]; exact List.Perm.append_left f1 p2), List.nodup_append.mpr ⟨n1, n2, fun a ha b hb z => ?_⟩, fun a ha z => ?_, by rw [← ez]; exact l1.trans l2, fun ts vs h => ?_, ?_⟩
    · subst z
      exact d2 a hb (.inr ha)
    · rcases List.mem_append.mp ha with h | h
      · exact d1 a h z
      · exact d2 a h (.inl z)
    · obtain ⟨t, v, ts', vs', e1, e2, h1, h2⟩ := h
      subst e1 e2
      rw [← ez]
      exact ⟨v, vs', rfl, (r1 t v h1).mono l2 sub2, r2 ts' vs' (h2.map k1)⟩
    · intro Zx σ2 H2 ρ2 F9 s9 dx l kp hio
      have e9 : zp Zx (f1 ++ f2) = zp (zp Zx f2) f1 := by
        funext b
        simp [zp]
        exact ⟨fun h => by rcases h with h | h | h <;> simp [h], fun h => by rcases h with (h | h) | h <;> simp [h]⟩
      rw [e9] at s9 l
      rw [← ez] at l
      obtain ⟨F3, s3, sb3⟩ := b1 (zp Zx f2) σ2 H2 ρ2 F9 s9 (fun a ha z => z.elim (dx a (by simp [ha])) fun z => d2 a z (.inr ha)) (l2.trans l) (fun a ha => kp a (by simp [ha])) (fun k hk => hio k (by simp [ioOps0, hk]))
      have l3 : Le (vw H F2 (zp (zp Z f1) f2)) (vw H2 F3 (zp Zx f2)) := fun b o e => by
        have q := hid_some.mp (l b o e)
        refine hid_some.mpr ⟨fun z => ?_, q.2⟩
        rcases z with z | z
        · rcases sb3 b z with y | y
          · exact q.1 (.inr (.inr y))
          · exact q.1 (.inl y)
        · exact q.1 (.inr (.inl z))
      obtain ⟨F4, s4, sb4⟩ := b2 Zx σ2 H2 _ F3 s3 (fun a ha => dx a (by simp [ha])) l3 (fun a ha => kp a (by simp [ha])) (fun k hk => hio k (by simp [ioOps0, hk]))
      refine ⟨F4, s4, fun a h => ?_⟩
      rcases sb4 a h with z | z
      · exact .inl (by simp [z])
      · rcases sb3 a z with z | z
        · exact .inl (by simp [z])
        · exact .inr z
end
end Pz
/-! P2o: for, while. -/
namespace Pz
open PySem PySem.Spec PyProof.Rows L2
/-- what a turn yields -/
def Yd (K : Frag) (ds : List D) (VV : Hp) : Nat → Hp → V → Hp → Prop := fun i H x H' => ∃ d G, ds[i]? = some d ∧ Le H H' ∧ Rp K G d x ∧ Le G H' ∧ ∀ b o, G b = some o → VV b = some o ∨ H b = none
abbrev Gives (K : Frag) (J : L2.It) (ds : List D) (V0 VV : Hp) : Prop := Walk J ds.length (fun H => Le V0 H) (Yd K ds VV)
section
variable {K : Frag} {G H V0 VV : Hp} {ds es : List D} {xs ys : List V}
theorem Src.at_le {H H' : Hp} (l : Le H H') : ∀ {x : Src}, x.at K H xs → x.at K H' xs
  | .l a, h => SqL.le l h
  | .t a, h => SqT.le l h
  | .s z, h => h
theorem gives_list {a : Addr} (h : SqL K V0 a xs) (r : RpL K VV ds xs) (l : Le VV V0) : Gives K (Itl K a) ds V0 VV := by
  rw [show Gives K (Itl K a) ds V0 VV = Walk (Itl K a) ds.length (fun H => Le V0 H) (Yd K ds VV) from rfl, r.len]
  refine walk_list.mono (fun H g => SqL.le g h) fun i H x H' hi g y => ?_
  obtain ⟨e, hx⟩ := y
  subst e
  have hd : i < ds.length := by rw [r.len]; exact hi
  obtain ⟨v, hv, rv⟩ := r.get (List.getElem?_eq_getElem hd)
  rw [hx] at hv
  cases hv
  exact ⟨_, VV, List.getElem?_eq_getElem hd, Le.refl _, rv, l.trans g, fun b o e => .inl e⟩
theorem gives_tup {a : Addr} (h : SqT K V0 a xs) (r : RpL K VV ds xs) (l : Le VV V0) : Gives K (Itt K a) ds V0 VV := by
  rw [show Gives K (Itt K a) ds V0 VV = Walk (Itt K a) ds.length (fun H => Le V0 H) (Yd K ds VV) from rfl, r.len]
  refine walk_tup.mono (fun H g => SqT.le g h) fun i H x H' hi g y => ?_
  obtain ⟨e, hx⟩ := y
  subst e
  have hd : i < ds.length := by rw [r.len]; exact hi
  obtain ⟨v, hv, rv⟩ := r.get (List.getElem?_eq_getElem hd)
  rw [hx] at hv
  cases hv
  exact ⟨_, VV, List.getElem?_eq_getElem hd, Le.refl _, rv, l.trans g, fun b o e => .inl e⟩
theorem chars_rp (z : Str) : RpL K G (z.cps.toList.map fun c => .str ⟨#[c]⟩) (z.cps.toList.map fun c => V.str ⟨#[c]⟩) := by
  generalize z.cps.toList = l
  induction l with
  | nil => exact rfl
  | cons c l ih => exact .cons rfl ih
theorem gives_str {z : Str} : Gives K (Its z) (z.cps.toList.map fun c => .str ⟨#[c]⟩) V0 VV := by
  rw [show Gives K (Its z) (z.cps.toList.map fun c => .str ⟨#[c]⟩) V0 VV = Walk (Its z) (z.cps.toList.map fun c => PyData.str ⟨#[c]⟩).length (fun H => Le V0 H) (Yd K _ VV) from rfl, show (z.cps.toList.map fun c => PyData.str ⟨#[c]⟩).length = z.cps.size by simp]
  refine walk_str.mono (fun H g => trivial) fun i H x H' hi g y => ?_
  obtain ⟨e, c, hc, hx⟩ := y
  subst e hx
  exact ⟨.str ⟨#[c]⟩, fun _ => none, by rw [List.getElem?_map, Array.getElem?_toList, hc]; rfl, Le.refl _, rfl, (fun b o z => by cases z), (fun b o z => by cases z)⟩
theorem gives_rng {lo : Int} {n : Nat} : Gives K (Itr lo n) ((List.range n).map fun (j : Nat) => .int (lo + (j : Int))) V0 VV := by
  have hl : ((List.range n).map fun (j : Nat) => PyData.int (lo + (j : Int))).length = n := by simp
  show Walk _ _ _ _
  rw [hl]
  refine walk_range.mono (fun H g => trivial) fun i H x H' hi g y => ?_
  obtain ⟨e, hx⟩ := y
  subst e hx
  exact ⟨.int (lo + i), fun _ => none, by rw [List.getElem?_map, List.getElem?_range hi]; rfl, Le.refl _, rfl, (fun b o z => by cases z), (fun b o z => by cases z)⟩
theorem gives_rngC {lo : Int} {n : Nat} : Gives K (Itc lo (-1) n) ((List.range n).map fun (j : Nat) => .int (lo - (j : Int))) V0 VV := by
  have hl : ((List.range n).map fun (j : Nat) => PyData.int (lo - (j : Int))).length = n := by simp
  show Walk _ _ _ _
  rw [hl]
  refine walk_rangeC.mono (fun H g => trivial) fun i H x H' hi g y => ?_
  obtain ⟨e, hx⟩ := y
  subst e hx
  refine ⟨.int (lo - i), fun _ => none, by rw [List.getElem?_map, List.getElem?_range hi]; rfl, Le.refl _, ?_, (fun b o z => by cases z), (fun b o z => by cases z)⟩
  show V.int _ = V.int _
  congr 1
  omega
/-- a source's items -/
theorem gives_src {x : Src} (h : x.at K V0 xs) (r : RpL K VV ds xs) (l : Le VV V0) : Gives K (x.it K) ds V0 VV := by
  cases x with
  | l a => exact gives_list h r l
  | t a => exact gives_tup h r l
  | s z =>
    cases h
    have e : ds = z.cps.toList.map fun c => .str ⟨#[c]⟩ := by
      revert r
      generalize z.cps.toList = cs
      intro r
      induction cs generalizing ds with
      | nil =>
        cases ds with
        | nil => rfl
        | cons d ds => obtain ⟨_, _, e, _⟩ := r; cases e
      | cons c cs ih =>
        cases ds with
        | nil => cases r
        | cons d ds =>
          obtain ⟨v, r', e, h1, h2⟩ := r
          cases e
          rw [ih h2]
          cases d with
          | str s => cases (show V.str _ = V.str s from h1); rfl
          | list _ => obtain ⟨_, _, e, _⟩ := h1; cases e
          | tuple _ => obtain ⟨_, _, e, _⟩ := h1; cases e
          | dict _ => exact h1.elim
          | none => cases h1
          | bool _ => cases h1
          | int _ => cases h1
    subst e
    exact gives_str
/-- a new pair -/
theorem rp_pair {a b : D} {x y : V} {T : Addr} (ha : Rp K VV a x) (hb : Rp K VV b y) (n : VV T = none) : Rp K (upd VV T (.tup [x, y])) (.tuple [a, b]) (.ref T) :=
  ⟨T, [x, y], rfl, .inl (.inl upd_same), .cons (ha.le (le_alloc n)) (.cons (hb.le (le_alloc n)) rfl)⟩
theorem enumFrom_get : ∀ {ds : List D} {n i : Nat} {d : D}, ds[i]? = some d → (enumFrom n ds)[i]? = some (.tuple [.int ((n + i : Nat) : Int), d])
  | [], _, _, _, h => by simp at h
  | x :: r, n, 0, d, h => by
    simp at h
    subst h
    rfl
  | x :: r, n, i + 1, d, h => by
    have := enumFrom_get (n := n + 1) (i := i) (d := d) (by simpa using h)
    show (enumFrom (n + 1) r)[i]? = _
    rw [this]
    congr 4
    omega
theorem enumFrom_len : ∀ (ds : List D) (n : Nat), (enumFrom n ds).length = ds.length
  | [], _ => rfl
  | x :: r, n => by simp [enumFrom, enumFrom_len r (n + 1)]
theorem upd_mem {H : Hp} {T b : Addr} {o u : HO} (h : upd H T o b = some u) : (b = T ∧ u = o) ∨ (b ≠ T ∧ H b = some u) := by
  by_cases e : b = T
  · subst e
    rw [upd_same] at h
    cases h
    exact .inl ⟨rfl, rfl⟩
  · rw [upd_ne e] at h
    exact .inr ⟨e, h⟩
theorem gives_pair {J : L2.It} {n : Nat} {f g : Nat → Option V} {fs : List D} (hn : fs.length = n) (w : Walk J n (fun H => Le V0 H) (YPair f g)) (l : Le VV V0)
    (h : ∀ i x y, i < n → f i = some x → g i = some y → ∃ a b, fs[i]? = some (.tuple [a, b]) ∧ Rp K VV a x ∧ Rp K VV b y) : Gives K J fs V0 VV := by
  show Walk _ _ _ _
  rw [hn]
  refine w.mono (fun H g => g) fun i H v H' hi gg y => ?_
  obtain ⟨T, x, y, e1, e2, e3, e4, e5⟩ := y
  obtain ⟨a, b, k1, k2, k3⟩ := h i x y hi e4 e5
  subst e1 e3
  have nT : VV T = none := by
    cases q : VV T with
    | none => rfl
    | some o => have := gg _ _ (l _ _ q); rw [e2] at this; cases this
  refine ⟨_, upd VV T (.tup [x, y]), k1, le_alloc e2, rp_pair k2 k3 nT, fun b o e => ?_, fun b o e => ?_⟩
  · rcases upd_mem e with ⟨z, z'⟩ | ⟨z, z'⟩
    · subst z z'; exact upd_same
    · rw [upd_ne z]; exact gg _ _ (l _ _ z')
  · rcases upd_mem e with ⟨z, z'⟩ | ⟨z, z'⟩
    · subst z; exact .inr e2
    · exact .inl z'
theorem gives_enum {x : Src} (h : x.at K V0 xs) (r : RpL K VV ds xs) (l : Le VV V0) : Gives K (ItE K x) (enumFrom 0 ds) V0 VV := by
  have hl := r.len
  have w : Walk (ItE K x) xs.length (fun H => Le V0 H) (YPair (fun i => some (.int (i : Nat))) (fun i => xs[i]?)) := by
    refine ⟨fun i H hi g => ⟨xs, xs[i], Src.at_le g h, by simp [hi]⟩, fun H g => ⟨xs, Src.at_le g h, rfl⟩, fun i H v H' hi g y => ?_⟩
    obtain ⟨T, y, e1, e2, e3, e4⟩ := y
    exact ⟨T, .int (i : Nat), y, e1, e2, e3, rfl, e4 xs (Src.at_le g h)⟩
  refine gives_pair (by rw [enumFrom_len, hl]) w l fun i x y hi e1 e2 => ?_
  cases e1
  have hd : i < ds.length := by rw [hl]; exact hi
  obtain ⟨v, hv, rv⟩ := r.get (List.getElem?_eq_getElem hd)
  rw [e2] at hv
  cases hv
  refine ⟨.int (i : Nat), ds[i], ?_, rfl, rv⟩
  have := enumFrom_get (n := 0) (List.getElem?_eq_getElem hd)
  rw [Nat.zero_add] at this
  exact this
theorem gives_zip {x1 x2 : Src} (h1 : x1.at K V0 xs) (h2 : x2.at K V0 ys) (r1 : RpL K VV ds xs) (r2 : RpL K VV es ys) (l : Le VV V0) : Gives K (ItZ K x1 x2) ((ds.zip es).map fun (x, y) => .tuple [x, y]) V0 VV := by
  have l1 := r1.len
  have l2 := r2.len
  have w : Walk (ItZ K x1 x2) (min xs.length ys.length) (fun H => Le V0 H) (YPair (fun i => xs[i]?) (fun i => ys[i]?)) := by
    refine ⟨fun i H hi g => ?_, fun H g => ⟨xs, ys, Src.at_le g h1, Src.at_le g h2, Nat.min_le_left _ _, Nat.min_le_right _ _, by omega⟩, fun i H v H' hi g y => ?_⟩
    · have k1 : i < xs.length := by omega
      have k2 : i < ys.length := by omega
      exact ⟨xs, ys, xs[i], ys[i], Src.at_le g h1, Src.at_le g h2, by simp [k1], by simp [k2]⟩
    · obtain ⟨T, a, b, e1, e2, e3, e4, e5⟩ := y
      exact ⟨T, a, b, e1, e2, e3, e4 xs (Src.at_le g h1), e5 ys (Src.at_le g h2)⟩
  refine gives_pair (by rw [List.length_map, List.length_zip, l1, l2]) w l fun i x y hi e1 e2 => ?_
  have k1 : i < ds.length := by omega
  have k2 : i < es.length := by omega
  obtain ⟨v, hv, rv⟩ := r1.get (List.getElem?_eq_getElem k1)
  rw [e1] at hv
  cases hv
  obtain ⟨v, hv, rv2⟩ := r2.get (List.getElem?_eq_getElem k2)
  rw [e2] at hv
  cases hv
  exact ⟨ds[i], es[i], by rw [List.getElem?_map, (List.getElem?_zip_eq_some (z := (ds[i], es[i]))).mpr ⟨List.getElem?_eq_getElem k1, List.getElem?_eq_getElem k2⟩]; rfl, rv, rv2⟩
/-- the items of what can be read -/
theorem items_src {t : T} {v : V} {fq : List Addr} (o : Ow K G H t v fq) (e : itemsS t = some ds) (g : Le G V0) (hf : ∀ a ∈ fq, ∀ o, H a = some o → V0 a = some o) : ∃ x xs, v = Src.v x ∧ Src.at K V0 x xs ∧ RpL K G ds xs := by
  have flat : ∀ {ds}, t.flat = some (.list ds) → ∃ x xs, v = Src.v x ∧ Src.at K V0 x xs ∧ RpL K G ds xs := fun {ds} e => by
    cases t with
    | leaf d =>
      cases e
      obtain ⟨a, vs, e1, ha, r⟩ := o.1
      exact ⟨.l a, vs, e1, SqL.of (g _ _ ha), r⟩
    | lst ts =>
      obtain ⟨a, vs, f, e1, ha, ef, r⟩ := o
      simp only [T.flat] at e
      cases q : leaves ts with
      | none => rw [q] at e; cases e
      | some ds' =>
        rw [q] at e
        cases e
        exact ⟨.l a, vs, e1, SqL.of (hf a (by rw [ef]; simp) _ ha), (OwL.leaves_of q r).1⟩
    | _ => cases e
  unfold itemsS at e
  split at e
  · rename_i z
    cases e
    exact ⟨.s z, _, o.1, rfl, chars_rp z⟩
  · unfold items at e
    split at e
    · cases e
      obtain ⟨a, vs, e1, ha, r⟩ := o.1
      exact ⟨.t a, vs, e1, SqT.le g ha, r⟩
    · cases e
      obtain ⟨a, e1, ha, _⟩ := o
      exact ⟨.l a, _, e1, SqL.le g ha, RpL.mapInt _⟩
    · split at e
      · rename_i xs q
        cases e
        exact flat q
      · cases e
end
/-! ### the readings -/
def xI (φ : Nat → List T → FR) (ca : Nat → Addr) (K : Frag) (W : WX) (it : It) : TI := fun σ H R =>
  ∃ Z ρ F, St K Z σ H ρ F ∧ SatR ca K W Z σ H F (evIt φ it ρ) fun ds ρ1 => ∀ J H1 F1 fp, St K (zp Z fp) σ H1 (takeIt it ρ1) F1 → fp.Nodup → (∀ a ∈ fp, ¬ Z a) → (∀ a ∈ fp, a ∉ F1) → Ext false H F H1 (F1 ++ fp) →
    (∃ fo, (∀ a ∈ fo, a ∈ fp) ∧ BackP K σ H1 (vw H1 F1 (zp Z fp)) fo (putIt ρ1 it) (ioIt it ρ1)) → Gives K J ds (hid H1 (fun b => b ∈ F1)) (vw H1 F1 (zp Z fp)) → R J H1
theorem PI.imp {X : Cx} {tg e : Expr} {t t' : TI} (h : PI X tg e t) (k : ∀ σ H R, t' σ H R → t σ H R) : PI X tg e t' := ⟨fun pins s σ H R I q => h.run pins s σ H R I (k σ H R q)⟩
section
variable {X : Cx} {φ : Nat → List T → FR} {ca : Nat → Addr} {W : WX} {io : List Nat} {e a b c tg : Expr} {ee ea eb ec : E} {pos apos pos' cpos p : Pos} {rest : List Stmt} {s : S}
/-- the operand is read where it stands, or lies in the air -/
theorem op_read {K : Frag} {Z : Addr → Prop} {σ : L2.St} {H : Hp} {ρ : Rho} {F fp : List Addr} {t : T} {v : V} (a : Air K Z σ H ρ F .rd ea t v fp) (s : St K (zp Z fp) σ H ρ F) (st : stands ea t = true) :
    OpS K (zp Z fp) σ H ρ F ea t v ∧ (fp.Nodup ∧ ∀ a ∈ fp, ¬ Z a) := by
  have tmp : Tmp K Z H F t v fp → OpS K (zp Z fp) σ H ρ F ea t v ∧ (fp.Nodup ∧ ∀ a ∈ fp, ¬ Z a) := fun h => ⟨.inl ⟨fp, h.2.2, fun a ha z => s.dz a z (.inr ha)⟩, h.1, h.2.1⟩
  cases ea with
  | var k =>
    obtain ⟨e1, e2, e3⟩ := a
    subst e1
    exact ⟨.inr ⟨k, rfl, e2, e3⟩, List.nodup_nil, fun _ z => by cases z⟩
  | idx x y =>
    obtain ⟨e1, fq, o⟩ := a
    subst e1
    cases t with
    | leaf d => exact ⟨.inl ⟨[], ⟨by rw [zp_nil]; exact o.1, rfl⟩, fun _ z => by cases z⟩, List.nodup_nil, fun _ z => by cases z⟩
    | _ => cases st
  | _ => exact tmp a
/-- the walk of one operand -/
theorem walk_one {K : Frag} {Z : Addr → Prop} {σ : L2.St} {H H1 : Hp} {ρ1 : Rho} {F F1 f1 : List Addr} {pf : Bool} {t : T} {v : V} {ds : List D} (s1 : St K (zp Z f1) σ H1 ρ1 F1) (x1 : Ext pf H F H1 (F1 ++ f1)) (a1 : Air K Z σ H1 ρ1 F1 .rd ea t v f1)
    (hs : stands ea t = true) (hi : itemsS t = some ds) : ∃ fp F2, St K (zp Z fp) σ H1 (takeOut ea ρ1) F2 ∧ fp.Nodup ∧ (∀ a ∈ fp, ¬ Z a) ∧ (∀ a ∈ fp, a ∉ F2) ∧ Ext false H F H1 (F2 ++ fp) ∧
      (∃ fo, (∀ a ∈ fo, a ∈ fp) ∧ BackP K σ H1 (vw H1 F2 (zp Z fp)) fo (putIn ρ1 ea) (ioOp ea ρ1)) ∧ ∃ x xs, v = Src.v x ∧ Src.at K (hid H1 (fun b => b ∈ F2)) x xs ∧ RpL K (vw H1 F2 (zp Z fp)) ds xs ∧ Src.at K H1 x xs := by
  obtain ⟨op, n1, d1⟩ := op_read a1 s1 hs
  obtain ⟨fo, F2, s2, pm, no, dO, le, _, rd, bk⟩ := takeOne ea s1
  obtain ⟨fq, o, nq⟩ := rd t v op
  have ez : zp (zp Z f1) fo = zp Z (f1 ++ fo) := zp_zp
  rw [ez] at s2 o bk
  have nd := List.nodup_append.mp (pm.nodup_iff.mp s1.nd)
  have g1 : Le (vw H1 F2 (zp Z (f1 ++ fo))) (hid H1 (fun b => b ∈ F2)) := fun b o e => by
    obtain ⟨n, q⟩ := hid_some.mp e
    exact hid_some.mpr ⟨fun z => n (.inl z), q⟩
  obtain ⟨x, xs, e1, e2, e3⟩ := items_src o hi g1 (fun a ha o q => hid_some.mpr ⟨nq a ha, q⟩)
  refine ⟨f1 ++ fo, F2, s2, List.nodup_append.mpr ⟨n1, no, fun a ha b hb z => ?_⟩, fun a ha z => ?_, fun a ha z => ?_, ⟨x1.keep, fun a ha => ?_, fun z => by cases z⟩, ⟨fo, fun a h => by simp [h], bk⟩, x, xs, e1, e2, e3, Src.at_le hid_le e2⟩
  · subst z
    exact dO a hb (.inr ha)
  · rcases List.mem_append.mp ha with h | h
    · exact d1 a h z
    · exact dO a h (.inl z)
  · rcases List.mem_append.mp ha with h | h
    · exact s1.dz a (pm.mem_iff.mpr (by simp [z])) (.inr h)
    · exact nd.2.2 a h a z rfl
  · refine x1.sub a ?_
    rcases List.mem_append.mp ha with h | h
    · simp [pm.mem_iff.mpr (show a ∈ fo ++ F2 by simp [h])]
    · rcases List.mem_append.mp h with h | h
      · simp [h]
      · simp [pm.mem_iff.mpr (show a ∈ fo ++ F2 by simp [h])]
theorem of_some' {α : Type} {o : Option α} {ρ : Rho} {K : Frag} {Z σ H F} {k : α → Rho → Prop} (h : SatR ca K W Z σ H F (Pz.R.of o ρ) k) : ∃ u, o = some u ∧ k u ρ := by
  cases o with
  | none => exact h.elim
  | some u => exact ⟨u, rfl, h⟩
theorem i_seq (ha : PE X a (xE φ ca X.K W .rd ea)) : PI X tg a (xI φ ca X.K W (.seq ea)) := by
  refine PI.imp (pi_src ha) fun σ H R q => ?_
  obtain ⟨Z, ρ, F, s, q⟩ := q
  unfold evIt at q
  refine ⟨Z, ρ, F, s, q.bind.imp fun t ρ1 h1 => fun v H1 F1 f1 s1 x1 a1 => ?_⟩
  split at h1
  · rename_i hs
    obtain ⟨ds, hi, h2⟩ := of_some' h1
    obtain ⟨fp, F2, s2, n2, d2, k2, x2, bk, x, xs, e1, e2, e3, e4⟩ := walk_one s1 x1 a1 hs hi
    have g1 : Le (vw H1 F2 (zp Z fp)) (hid H1 (fun b => b ∈ F2)) := fun b o e => by
      obtain ⟨n, q⟩ := hid_some.mp e
      exact hid_some.mpr ⟨fun z => n (.inl z), q⟩
    exact ⟨x, xs, e1, e4, h2 _ H1 F2 fp s2 n2 d2 k2 x2 bk (gives_src e2 e3 g1)⟩
  · exact h1.elim
theorem i_enum {elts : List Expr} {kk : Nat} {tpos : Pos} (hg : Gl X "enumerate") (hm : X.mg "enumerate" = none) (ha : PE X a (xE φ ca X.K W .rd ea)) (hst : starEach [a] X.env = (false, eval a X.env) :: starEach [] X.env) :
    PI X (.Tuple elts kk tpos) (.Call (.Name "enumerate" p) [a] [] pos) (xI φ ca X.K W (.enum ea)) := by
  refine PI.imp (pi_enumA hg hm (pa_cons ha pa_nil hst) hst) fun σ H R q => ?_
  obtain ⟨Z, ρ, F, s, q⟩ := q
  unfold evIt at q
  refine ⟨Z, ρ, F, s, q.bind.imp fun t ρ1 h1 => fun v H1 F1 f1 s1 x1 a1 => ?_⟩
  split at h1
  · rename_i hs
    split at h1
    · rename_i ds hi
      obtain ⟨fp, F2, s2, n2, d2, k2, x2, bk, x, xs, e1, e2, e3, e4⟩ := walk_one s1 x1 a1 hs hi
      have g1 : Le (vw H1 F2 (zp Z fp)) (hid H1 (fun b => b ∈ F2)) := fun b o e => by
        obtain ⟨n, q⟩ := hid_some.mp e
        exact hid_some.mpr ⟨fun z => n (.inl z), q⟩
      refine ⟨x, xs, by rw [e1], e4, h1 _ H1 F2 fp s2 n2 d2 k2 x2 bk (gives_enum e2 e3 g1)⟩
    · exact h1.elim
  · exact h1.elim
theorem int_of {t : T} {i : Int} (h : asInt t = some i) : t = .leaf (.int i) := by
  cases t with
  | leaf d => cases d <;> cases h; rfl
  | _ => cases h
theorem big_of {i : Int} (h : big62 i = true) : -(2 ^ 62) ≤ i ∧ i < 2 ^ 62 := by
  unfold big62 at h
  simp only [Nat.ble_eq] at h
  omega
theorem i_rng1 (hg : Gl X "range") (hm : X.mg "range" = none) (ha : PE X a (xE φ ca X.K W .rd ea)) (hst : starEach [a] X.env = (false, eval a X.env) :: starEach [] X.env) : PI X tg (.Call (.Name "range" p) [a] [] pos) (xI φ ca X.K W (.rng1 ea)) := by
  refine PI.imp (pi_range1 hg hm (pa_cons ha pa_nil hst) hst) fun σ H R q => ?_
  obtain ⟨Z, ρ, F, s, q⟩ := q
  unfold evIt at q
  refine ⟨Z, ρ, F, s, q.bind.imp fun t ρ1 h1 => fun v H1 F1 f1 s1 x1 a1 => ?_⟩
  split at h1
  · rename_i i hi
    have := int_of hi
    subst this
    obtain ⟨ef, rv⟩ := ret_leaf a1 s1
    subst ef
    split at h1
    · rename_i hb
      obtain ⟨b1, b2⟩ := big_of hb
      refine ⟨i, by rw [show v = V.int i from rv], b1, b2, h1 _ H1 F1 [] s1 List.nodup_nil (fun _ z => by cases z) (fun _ z => by cases z) x1.toF ⟨[], (fun _ z => by cases z), BackP.nil⟩ ?_⟩
      have := gives_rng (K := X.K) (V0 := hid H1 (fun b => b ∈ F1)) (VV := vw H1 F1 (zp Z [])) (lo := 0) (n := i.toNat)
      simpa using this
    · exact h1.elim
  · exact h1.elim
theorem two_ints {Z : Addr → Prop} {σ : L2.St} {H : Hp} {ρ : Rho} {F : List Addr} {α : Type} {g : Int → Int → Rho → Pz.R α} {k : α → Rho → Prop} (s : St X.K Z σ H ρ F)
    (h : SatR ca X.K W Z σ H F ((ev φ .rd ea ρ).bind fun x ρ1 => (ev φ .rd eb ρ1).bind fun y ρ2 => match asInt x, asInt y with | some i, some j => g i j ρ2 | _, _ => .bad) k) :
    xE φ ca X.K W .rd ea σ H fun x H1 => xE φ ca X.K W .rd eb σ H1 fun y H2 => ∃ i j ρ2 F2, x = .int i ∧ y = .int j ∧ St X.K Z σ H2 ρ2 F2 ∧ Ext false H F H2 F2 ∧ SatR ca X.K W Z σ H F (g i j ρ2) k := by
  refine ⟨Z, ρ, F, s, h.bind.imp fun t ρ1 h1 => fun v1 H1 F1 f1 s1 x1 a1 => ?_⟩
  refine ⟨zp Z f1, ρ1, F1, s1, h1.bind.rebase x1 fun u ρ2 h2 => fun v2 H2 F2 f2 s2 x2 a2 => ?_⟩
  split at h2
  · rename_i i j hi hj
    have := int_of hi
    subst this
    have := int_of hj
    subst this
    obtain ⟨ef, r1⟩ := ret_leaf a1 s1
    subst ef
    obtain ⟨ef, r2⟩ := ret_leaf a2 s2
    subst ef
    rw [zp_nil] at *
    rw [zp_nil] at s2
    rw [List.append_nil] at x1 x2
    exact ⟨i, j, ρ2, F2, r1, r2, s2, x1.tr x2, h2⟩
  · exact h2.elim
theorem i_rng2 (hg : Gl X "range") (hm : X.mg "range" = none) (ha : PE X a (xE φ ca X.K W .rd ea)) (hb : PE X b (xE φ ca X.K W .rd eb)) (hst : starEach [a, b] X.env = (false, eval a X.env) :: starEach [b] X.env) (hst2 : starEach [b] X.env = (false, eval b X.env) :: starEach [] X.env) :
    PI X tg (.Call (.Name "range" p) [a, b] [] pos) (xI φ ca X.K W (.rng2 ea eb)) := by
  refine PI.imp (pi_range2 hg hm (pa_cons ha (pa_cons hb pa_nil hst2) hst) (by rw [hst, hst2]; rfl) hst2) fun σ H R q => ?_
  obtain ⟨Z, ρ, F, s, q⟩ := q
  unfold evIt at q
  obtain ⟨Z1, ρ1, F1, s1, q1⟩ := two_ints (g := fun i j ρ2 => if big62 i = true ∧ big62 j = true then Pz.R.ok ((List.range (j - i).toNat).map fun (k : Nat) => PyData.int (i + (k : Int))) ρ2 else Pz.R.bad) s q
  refine ⟨Z1, ρ1, F1, s1, q1.imp fun t ρ' h => fun v H' F' fp s' x' a' => ?_⟩
  obtain ⟨Z2, ρ2, F2, s2, q2⟩ := h v H' F' fp s' x' a'
  refine ⟨Z2, ρ2, F2, s2, q2.imp fun u ρ3 h => fun w H3 F3 fp3 s3 x3 a3 => ?_⟩
  obtain ⟨i, j, ρ4, F4, e1, e2, s4, x4, h4⟩ := h w H3 F3 fp3 s3 x3 a3
  split at h4
  · rename_i hb
    obtain ⟨b1, b2⟩ := big_of hb.1
    obtain ⟨b3, b4⟩ := big_of hb.2
    refine ⟨i, j, by rw [e1, e2], ⟨b1, b2, b3, b4⟩, h4 _ H3 F4 [] (by rw [zp_nil]; exact s4) List.nodup_nil (fun _ z => by cases z) (fun _ z => by cases z) (by rw [List.append_nil]; exact x4) ⟨[], (fun _ z => by cases z), BackP.nil⟩ gives_rng⟩
  · exact h4.elim
theorem i_rng3 {n1 : Nat} {p1 p2 : Pos} (hg : Gl X "range") (hm : X.mg "range" = none) (ha : PE X a (xE φ ca X.K W .rd ea)) (hb : PE X b (xE φ ca X.K W .rd eb))
    (hst : starEach [a, b, .UnaryOp .USub (.Constant (.int 1) n1 p1) p2] X.env = (false, eval a X.env) :: starEach [b, .UnaryOp .USub (.Constant (.int 1) n1 p1) p2] X.env)
    (hst2 : starEach [b, .UnaryOp .USub (.Constant (.int 1) n1 p1) p2] X.env = (false, eval b X.env) :: starEach [.UnaryOp .USub (.Constant (.int 1) n1 p1) p2] X.env)
    (hst3 : starEach [.UnaryOp .USub (.Constant (.int 1) n1 p1) p2] X.env = (false, eval (.UnaryOp .USub (.Constant (.int 1) n1 p1) p2) X.env) :: starEach [] X.env) :
    PI X tg (.Call (.Name "range" p) [a, b, .UnaryOp .USub (.Constant (.int 1) n1 p1) p2] [] pos) (xI φ ca X.K W (.rng3 ea eb (-1))) := by
  have hc : PE X (.UnaryOp .USub (.Constant (.int 1) n1 p1) p2) (tUn (rU fun i => .int (-i)) (tC (.int 1))) := pe_un un_neg pe_int
  refine PI.imp (pi_range3 hg hm (pa_cons ha (pa_cons hb (pa_cons hc pa_nil hst3) hst2) hst) hst (by rw [hst2, hst3]; rfl)) fun σ H R q => ?_
  obtain ⟨Z, ρ, F, s, q⟩ := q
  unfold evIt at q
  obtain ⟨Z1, ρ1, F1, s1, q1⟩ := two_ints (g := fun i j ρ2 => if big62 i = true ∧ big62 j = true ∧ (-1 : Int) = -1 then Pz.R.ok ((List.range (i - j).toNat).map fun (k : Nat) => PyData.int (i - (k : Int))) ρ2 else Pz.R.bad) s q
  refine ⟨Z1, ρ1, F1, s1, q1.imp fun t ρ' h => fun v H' F' fp s' x' a' => ?_⟩
  obtain ⟨Z2, ρ2, F2, s2, q2⟩ := h v H' F' fp s' x' a'
  refine ⟨Z2, ρ2, F2, s2, q2.imp fun u ρ3 h => fun w H3 F3 fp3 s3 x3 a3 => ?_⟩
  obtain ⟨i, j, ρ4, F4, e1, e2, s4, x4, h4⟩ := h w H3 F3 fp3 s3 x3 a3
  split at h4
  · rename_i hb
    obtain ⟨b1, b2⟩ := big_of hb.1
    obtain ⟨b3, b4⟩ := big_of hb.2.1
    refine ⟨1, rfl, i, j, -1, (i - j).toNat, by rw [e1, e2], RgC.neg b1 b2 b3 b4, h4 _ H3 F4 [] (by rw [zp_nil]; exact s4) List.nodup_nil (fun _ z => by cases z) (fun _ z => by cases z) (by rw [List.append_nil]; exact x4) ⟨[], (fun _ z => by cases z), BackP.nil⟩ gives_rngC⟩
  · exact h4.elim
end
end Pz
/-! P2p: zip, for, while. -/
namespace Pz
open PySem PySem.Spec PyProof.Rows L2
section
variable {X : Cx} {φ : Nat → List T → FR} {ca : Nat → Addr} {W : WX} {io : List Nat} {e a b c tg : Expr} {ee ea eb ec : E} {pos apos pos' cpos p : Pos} {rest : List Stmt} {s : S}
theorem op_later {K : Frag} {Z : Addr → Prop} {σ : L2.St} {H1 H2 : Hp} {ρ1 ρ2 : Rho} {F1 F2 f1 f2 : List Addr} {pf : Bool} {t x : T} {v : V} (a1 : Air K Z σ H1 ρ1 F1 .rd ea t v f1) (s1 : St K (zp Z f1) σ H1 ρ1 F1) (x2 : Ext pf H1 F1 H2 (F2 ++ f2)) (s2 : St K (zp (zp Z f1) f2) σ H2 ρ2 F2)
    (q : opnd ea t ρ2 false = some x) (hs : stands ea x = true) : OpS K (zp (zp Z f1) f2) σ H2 ρ2 F2 ea x v ∧ f1.Nodup ∧ (∀ a ∈ f1, ¬ Z a) := by
  have tmp : Tmp K Z H1 F1 t v f1 → x = t → OpS K (zp (zp Z f1) f2) σ H2 ρ2 F2 ea x v ∧ f1.Nodup ∧ (∀ a ∈ f1, ¬ Z a) := fun h e => by
    subst e
    exact ⟨.inl ⟨f1, h.2.2.step s1 x2, fun a ha z => s2.dz a z (.inl (.inr ha))⟩, h.1, h.2.1⟩
  cases ea with
  | var k =>
    obtain ⟨e1, e2, e3⟩ := a1
    subst e1
    exact ⟨.inr ⟨k, rfl, e2, q⟩, List.nodup_nil, fun _ z => by cases z⟩
  | idx y z =>
    obtain ⟨e1, fq, o⟩ := a1
    subst e1
    unfold opnd at q
    simp only at q
    split at q
    · rename_i hc
      cases q
      cases t with
      | leaf d =>
        refine ⟨.inl ⟨[], ⟨?_, rfl⟩, fun _ z => by cases z⟩, List.nodup_nil, fun _ z => by cases z⟩
        rw [zp_nil]
        exact o.1.le x2.view
      | _ => cases hs
    · cases q
  | _ =>
    have q' : some t = some x := q
    exact tmp a1 (by cases q'; rfl)
theorem items_S {t : T} {ds : List D} (h : items t = some ds) : itemsS t = some ds := by
  unfold itemsS
  split
  · simp [items, T.flat] at h
  · exact h
theorem i_zip {elts : List Expr} {kk : Nat} {tpos : Pos} (hg : Gl X "zip") (hm : X.mg "zip" = none) (ha : PE X a (xE φ ca X.K W .rd ea)) (hb : PE X b (xE φ ca X.K W .rd eb)) (hst : starEach [a, b] X.env = (false, eval a X.env) :: starEach [b] X.env) (hst2 : starEach [b] X.env = (false, eval b X.env) :: starEach [] X.env) :
    PI X (.Tuple elts kk tpos) (.Call (.Name "zip" p) [a, b] [] pos) (xI φ ca X.K W (.zip (.cons ea (.cons eb .nil)))) := by
  refine PI.imp (pi_zipS hg hm (pa_cons ha (pa_cons hb pa_nil hst2) hst) hst (by rw [hst2]; rfl)) fun σ H R q => ?_
  obtain ⟨Z, ρ, F, s, q⟩ := q
  unfold evIt evRds evRds evRds at q
  refine ⟨Z, ρ, F, s, q.bind.bind.imp fun t1 ρ1 h1 => fun v1 H1 F1 f1 s1 x1 a1 => ?_⟩
  refine ⟨zp Z f1, ρ1, F1, s1, h1.bind.bind.rebase x1 fun t2 ρ2 h2 => fun v2 H2 F2 f2 s2 x2 a2 => ?_⟩
  simp only [Pz.R.bind] at h2
  split at h2
  · rename_i xb q2
    split at h2
    · rename_i hsb
      replace h2 := h2.okD
      split at h2
      · rename_i xa q1
        split at h2
        · rename_i hsa
          replace h2 := h2.okD
          simp only [itemsAll] at h2
          have xx := x1.trans x2
          obtain ⟨op1, n1, d1⟩ := op_later a1 s1 x2 s2 q1 hsa
          have e2 : xb = t2 := by
            cases eb with
            | var k =>
              obtain ⟨_, _, e3⟩ := a2
              rw [show opnd (.var k) t2 ρ2 false = getSlot ρ2 k from rfl, e3] at q2
              cases q2; rfl
            | idx y z =>
              unfold opnd at q2
              simp only at q2
              split at q2
              · cases q2; rfl
              · cases q2
            | _ =>
              have q' : some t2 = some xb := q2
              cases q'; rfl
          subst e2
          obtain ⟨op2, n2, d2⟩ := op_read a2 s2 hsb
          obtain ⟨fo, F3, s3, pm, no, dO, le, rd, bk⟩ := takeMany (.cons ea (.cons eb .nil)) s2
          obtain ⟨_, _, e5, rd1, _, _, e6, rd2, e7⟩ := rd [xa, xb] [v1, v2] ⟨xa, v1, [xb], [v2], rfl, rfl, op1, xb, v2, [], [], rfl, rfl, op2, rfl, rfl⟩
          cases e5
          cases e6
          have ez : zp (zp (zp Z f1) f2) fo = zp Z (f1 ++ f2 ++ fo) := by rw [zp_zp, zp_zp, List.append_assoc]
          rw [ez] at s3 bk rd1 rd2
          cases q3 : items xa with
          | none => rw [q3] at h2; exact h2.elim
          | some ds1 =>
            rw [q3] at h2
            simp only at h2
            cases q4 : items xb with
            | none => rw [q4] at h2; exact h2.elim
            | some ds2 =>
              rw [q4] at h2
              simp only at h2
              obtain ⟨zs, hz, h3⟩ := of_some' h2
              cases hz
              have g1 : Le (vw H2 F3 (zp Z (f1 ++ f2 ++ fo))) (hid H2 (fun b => b ∈ F3)) := fun b o e => by
                obtain ⟨n, q⟩ := hid_some.mp e
                exact hid_some.mpr ⟨fun z => n (.inl z), q⟩
              obtain ⟨fq1, o1, nq1⟩ := rd1
              obtain ⟨fq2, o2, nq2⟩ := rd2
              obtain ⟨y1, xs1, e8, e9, e10⟩ := items_src o1 (items_S q3) g1 (fun a ha o q => hid_some.mpr ⟨nq1 a ha, q⟩)
              obtain ⟨y2, xs2, e11, e12, e13⟩ := items_src o2 (items_S q4) g1 (fun a ha o q => hid_some.mpr ⟨nq2 a ha, q⟩)
              have nd := List.nodup_append.mp (pm.nodup_iff.mp s2.nd)
              refine ⟨y1, y2, xs1, xs2, by rw [e8, e11], Src.at_le hid_le e9, Src.at_le hid_le e12, h3 _ H2 F3 (f1 ++ f2 ++ fo) s3 ?_ (fun a ha z => ?_) (fun a ha z => ?_) ⟨fun b o e n => xx.keep b o e n, fun a ha => ?_, fun z => by cases z⟩ ⟨fo, fun a h => by simp [h], bk⟩ (gives_zip e9 e12 e10 e13 g1)⟩
              · refine List.nodup_append.mpr ⟨List.nodup_append.mpr ⟨n1, n2, fun a ha b hb z => ?_⟩, no, fun a ha b hb z => ?_⟩
                · subst z
                  exact d2 a hb (.inr ha)
                · subst z
                  rcases List.mem_append.mp ha with h | h
                  · exact dO a hb (.inl (.inr h))
                  · exact dO a hb (.inr h)
              · rcases List.mem_append.mp ha with h | h
                · rcases List.mem_append.mp h with h | h
                  · exact d1 a h z
                  · exact d2 a h (.inl z)
                · exact dO a h (.inl (.inl z))
              · rcases List.mem_append.mp ha with h | h
                · rcases List.mem_append.mp h with h | h
                  · exact s2.dz a (pm.mem_iff.mpr (by simp [z])) (.inl (.inr h))
                  · exact s2.dz a (pm.mem_iff.mpr (by simp [z])) (.inr h)
                · exact nd.2.2 a h a z rfl
              · refine xx.sub a ?_
                rcases List.mem_append.mp ha with h | h
                · simp [pm.mem_iff.mpr (show a ∈ fo ++ F3 by simp [h])]
                · rcases List.mem_append.mp h with h | h
                  · rcases List.mem_append.mp h with h | h <;> simp [h]
                  · simp [pm.mem_iff.mpr (show a ∈ fo ++ F3 by simp [h])]
        · exact h2.elim
      · exact h2.elim
    · exact h2.elim
  · exact h2.elim
/-! ### for -/
/-- a loop's end, seen from within -/
def inEnds (ca : Nat → Addr) (K : Frag) (W : WX) (io : List Nat) (rest : Rho → O) (D : Ends) : Ends := { nx := xS ca K W io rest D, rt := D.rt }
theorem loop_in {K : Frag} {Z : Addr → Prop} {σ : L2.St} {H1 : Hp} {F1 fp fo : List Addr} {io' : List Nat} {put : Rho → Rho} {D : Ends} {rest : Rho → O} {o : O} (nfp : ∀ a ∈ fp, a ∉ F1) (hfp : ∀ a ∈ fp, ∃ o, H1 a = some o) (hfo : ∀ a ∈ fo, a ∈ fp) (dfp : ∀ a ∈ fp, ¬ Z a)
    (bk : BackP K σ H1 (vw H1 F1 (zp Z fp)) fo put io') (nb : ∀ ρ, o ≠ .brk ρ ∧ o ≠ .cont ρ)
    (q0 : PostO ca K W Z io σ H1 (F1 ++ fp) D ((O.map1 put o).thn rest)) :
    PostO ca K W (zp Z fp) (io' ++ io) σ H1 F1 (inEnds ca K W io rest D) o := by
  have back : ∀ {σ' : L2.St} {H' : Hp} {ρ' : Rho} {F' g : List Addr}, St K (zp (zp Z fp) g) σ' H' ρ' F' → Ext false H1 F1 H' (F' ++ g) → Pin (io' ++ io) σ σ' → ∃ F3, St K (zp Z g) σ' H' (put ρ') F3 ∧ (∀ a ∈ F3, a ∈ fp ∨ a ∈ F') ∧ Ext false H1 (F1 ++ fp) H' (F3 ++ g) ∧ Pin io σ σ' := fun {σ' H' ρ' F' g} s x pn => by
    have dg : ∀ a ∈ fp, a ∉ g := fun a ha hg => by
      rcases x.sub a (by simp [hg]) with z | z
      · exact nfp a ha z
      · obtain ⟨o, q⟩ := hfp a ha
        rw [z] at q
        cases q
    have s' : St K (zp (zp Z g) fo) σ' H' ρ' F' := s.unz fun b z => by
      rcases z with (z | z) | z
      · exact .inl (.inl z)
      · exact .inr z
      · exact .inl (.inr (hfo b z))
    obtain ⟨F3, s3, sb⟩ := bk (zp Z g) σ' H' ρ' F' s' (fun a ha z => z.elim (dfp a (hfo a ha)) (dg a (hfo a ha))) (fun b o e => by
      obtain ⟨n, q⟩ := hid_some.mp e
      have nF : b ∉ F' ++ g := fun z => (x.sub b z).elim (fun z => n (.inl z)) fun z => by rw [z] at q; cases q
      refine hid_some.mpr ⟨fun z => ?_, x.keep b o q fun z => n (.inl z)⟩
      rcases z with z | (z | z) | z
      · exact nF (by simp [z])
      · exact n (.inr (.inl z))
      · exact nF (by simp [z])
      · exact n (.inr (.inr (hfo b z)))) (fun a ha o q => x.keep a o q (nfp a (hfo a ha))) (fun k hk => pn k (by simp [hk]))
    refine ⟨F3, s3, fun a h => (sb a h).imp (hfo a) id, ⟨fun b o e n => x.keep b o e fun z => n (by simp [z]), fun a ha => ?_, fun z => by cases z⟩, fun k hk => pn k (by simp [hk])⟩
    rcases List.mem_append.mp ha with h | h
    · rcases sb a h with z | z
      · exact .inl (by simp [hfo a z])
      · rcases x.sub a (by simp [z]) with y | y
        · exact .inl (by simp [y])
        · exact .inr y
    · rcases x.sub a (by simp [h]) with y | y
      · exact .inl (by simp [y])
      · exact .inr y
  cases o with
  | next ρ' =>
    intro σ' H' F' s x pn
    obtain ⟨F3, s3, _, x3, p3⟩ := back (g := []) (by rw [zp_nil]; exact s) (by rw [List.append_nil]; exact x) pn
    rw [zp_nil] at s3
    rw [List.append_nil] at x3
    exact ⟨Z, _, F3, s3, PostO.rebase q0 x3 p3⟩
  | brk ρ' => exact absurd rfl (nb ρ').1
  | cont ρ' => exact absurd rfl (nb ρ').2
  | ret t ρ' =>
    intro v σ' H' F' g s x pn tm
    obtain ⟨F3, s3, sb, x3, p3⟩ := back s x pn
    refine q0 v σ' H' F3 g s3 x3 p3 ⟨tm.1, fun a ha z => tm.2.1 a ha (.inl z), tm.2.2.view ?_⟩
    refine vw_le fun b o e n1 n2 => ⟨e, fun z => ?_, fun z => ?_⟩
    · rcases sb b z with y | y
      · exact n2 (.inl (.inr y))
      · exact n1 y
    · rcases z with z | z
      · exact n2 (.inl (.inl z))
      · exact n2 (.inr z)
  | exc x0 ρ' =>
    intro cls d σ' H' F' s x pn r
    obtain ⟨F3, s3, sb, x3, p3⟩ := back (g := []) (by rw [zp_nil]; exact s) (by rw [List.append_nil]; exact x) pn
    rw [zp_nil] at s3
    rw [List.append_nil] at x3
    refine q0 cls d σ' H' F3 s3 x3 p3 (r.le ?_)
    refine vw_le fun b o e n1 n2 => ⟨e, fun z => ?_, fun z => n2 (.inl z)⟩
    rcases sb b z with y | y
    · exact n2 (.inr y)
    · exact n1 y
  | bad => exact q0.elim
theorem forM_nb {f : D → Rho → O} : ∀ {ds : List D} {ρ ρ' : Rho}, forM f ds ρ ≠ .brk ρ' ∧ forM f ds ρ ≠ .cont ρ'
  | [], ρ, ρ' => ⟨fun z => (nomatch z), fun z => (nomatch z)⟩
  | d :: ds, ρ, ρ' => by
    unfold forM
    split
    · exact forM_nb
    · exact forM_nb
    · exact ⟨fun z => (nomatch z), fun z => (nomatch z)⟩
    · rename_i o h1 h2 h3
      exact ⟨fun z => h3 _ z, fun z => h2 _ z⟩
theorem c_for {it : It} {pt : Pat} {body : List Stmt} {sb : S} {iter : Expr} (hp : PassesOwn (model X.prog X.w) X.A X.env X.xe) (hc : X.calm = true) (hi : PI X tg iter (xI φ ca X.K W it)) (hg : PG X tg (gP X.K pt)) (hb : ∀ io, PSs X body (xS ca X.K W io (evS φ io sb)))
    (hs : ∀ x, foldedSetIterable iter X.env x = pure x) (hr : PSs X rest (xS ca X.K W io (evS φ io s))) : PSs X (.For tg iter body [] pos :: rest) (xS ca X.K W io (evS φ io (.for pt it sb s))) := by
  have hb' : PSs X body (fun D σ H => ∃ io', xS ca X.K W io' (evS φ io' sb) D σ H) := ⟨fun pins s σ H D I ⟨io', h⟩ => (hb io').run pins s σ H D I h⟩
  refine PSs.imp (pss_cons (ps_for hp hc hi hg hb' hs) hr) fun D σ H q => ?_
  obtain ⟨Z, ρ, F, s0, q⟩ := q
  unfold evS at q
  refine ⟨Z, ρ, F, s0, q.go.imp fun ds ρ1 q1 => fun J H1 F1 fp s1 n1 d1 k1 x1 bk gv => ?_⟩
  obtain ⟨fo, hfo, bk⟩ := bk
  have hfp : ∀ a ∈ fp, ∃ o, H1 a = some o := fun a ha => s1.zt a (.inr ha)
  have q2 := loop_in (W := W) (ca := ca) (io := io) (D := D) k1 hfp hfo d1 bk (fun ρ' => forM_nb) (q1.rebase x1 Pin.refl)
  generalize hio : ioIt it ρ1 ++ io = io' at q2
  generalize hf : (fun (d : PyData) (ρ2 : Rho) => match bindIo io' pt d ρ2 with | some ρ3 => evS φ io' sb ρ3 | none => O.bad) = f at q2
  refine for_it (g := gP X.K pt) (tb := fun D σ H => ∃ io', xS ca X.K W io' (evS φ io' sb) D σ H) (D := { D with nx := xS ca X.K W io (fun ρ4 => evS φ io s ρ4) D }) gv (fun i σ2 H2 => ∃ ρ2 F2, St X.K (zp Z fp) σ2 H2 ρ2 F2 ∧ Ext false H1 F1 H2 F2 ∧ PostO ca X.K W (zp Z fp) io' σ2 H2 F2 (inEnds ca X.K W io (fun ρ4 => evS φ io s ρ4) D) (forM f (ds.drop i) ρ2)) ?_ ?_ ?_ ?_
  · exact ⟨_, F1, s1, Ext.refl, by rw [List.drop_zero]; exact q2⟩
  · rintro i σ2 H2 hi ⟨ρ2, F2, s2, x2, _⟩ b o e
    obtain ⟨n, q⟩ := hid_some.mp e
    exact x2.keep b o q n
  · rintro i x σ2 H2 H3 hi ⟨ρ2, F2, s2, x2, q3⟩ ⟨d, G, e1, l1, r1, l2, nw⟩
    have hd : ds.drop i = d :: ds.drop (i + 1) := by
      have h := List.drop_eq_getElem_cons hi
      rw [List.getElem?_eq_getElem hi] at e1
      cases e1
      exact h
    rw [hd] at q3
    have s3 := s2.grow l1
    have vG : Le G (vw H3 F2 (zp Z fp)) := fun b o e => by
      refine hid_some.mpr ⟨fun z => ?_, l2 b o e⟩
      rcases nw b o e with y | y
      · obtain ⟨n, q⟩ := hid_some.mp y
        rcases z with z | z
        · rcases x2.sub b z with w | w
          · exact n (.inl w)
          · rw [w] at q; cases q
        · exact n (.inr z)
      · rcases z with z | z
        · obtain ⟨o', q⟩ := s2.alive b z; rw [y] at q; cases q
        · obtain ⟨o', q⟩ := s2.zt b z; rw [y] at q; cases q
    have x3 : Ext false H2 F2 H3 F2 := ⟨fun b o e _ => l1 b o e, fun a h => .inl h, fun z => by cases z⟩
    unfold forM at q3
    cases hb2 : bindIo io' pt d ρ2 with
    | none =>
      rw [← hf] at q3
      simp only [hb2] at q3
      exact q3.elim
    | some ρ3 =>
      have ef : f d ρ2 = evS φ io' sb ρ3 := by rw [← hf]; simp only [hb2]
      rw [ef] at q3
      obtain ⟨hbp, nio⟩ := bindIo_some hb2
      refine ⟨G, d, l2, r1, bindP_fits hbp, fun σ3 b3 => ?_⟩
      obtain ⟨F3, s4, sub, kk⟩ := bind_st hbp s3 vG (fun _ h => h) b3
      refine ⟨io', zp Z fp, ρ3, F3, s4, ?_⟩
      have x4 : Ext false H2 F2 H3 F3 := ⟨x3.keep, fun a h => .inl (sub a h), fun z => by cases z⟩
      have p4 : Pin io' σ2 σ3 := fun k hk => kk k (nio k hk)
      have again : ∀ ρ', PostO ca X.K W (zp Z fp) io' σ2 H2 F2 (inEnds ca X.K W io (fun ρ4 => evS φ io s ρ4) D) (forM f (ds.drop (i + 1)) ρ') → ∀ σ' H' F', St X.K (zp Z fp) σ' H' ρ' F' → Ext false H3 F3 H' F' → Pin io' σ3 σ' →
          ∃ ρ2 F2, St X.K (zp Z fp) σ' H' ρ2 F2 ∧ Ext false H1 F1 H' F2 ∧ PostO ca X.K W (zp Z fp) io' σ' H' F2 (inEnds ca X.K W io (fun ρ4 => evS φ io s ρ4) D) (forM f (ds.drop (i + 1)) ρ2) := fun ρ' h σ' H' F' s' x' p' =>
        ⟨ρ', F', s', (x2.tr x4).tr x', h.rebase (x4.tr x') (p4.trans p')⟩
      cases ho : evS φ io' sb ρ3 with
      | next ρ' => rw [ho] at q3; exact again ρ' q3
      | cont ρ' => rw [ho] at q3; exact again ρ' q3
      | brk ρ' => rw [ho] at q3; exact fun σ' H' F' s' x' p' => q3 σ' H' F' s' (x4.tr x') (p4.trans p')
      | ret t ρ' => rw [ho] at q3; exact fun v σ' H' F' g s' x' p' tm => q3 v σ' H' F' g s' (x4.tr x') (p4.trans p') tm
      | exc x0 ρ' => rw [ho] at q3; exact fun cls d σ' H' F' s' x' p' r => q3 cls d σ' H' F' s' (x4.tr x') (p4.trans p') r
      | bad => rw [ho] at q3; exact q3.elim
  · rintro σ2 H2 ⟨ρ2, F2, s2, x2, q3⟩
    rw [List.drop_eq_nil_of_le (Nat.le_refl _)] at q3
    exact q3 σ2 H2 F2 s2 Ext.refl Pin.refl
/-! ### while -/
theorem c_while {n : Nat} {body : List Stmt} {sb : S} (hp : PassesOwn (model X.prog X.w) X.A X.env X.xe) (hcn : PT X c (xC φ ca X.K W ec)) (hb : PSs X body (xS ca X.K W io (evS φ io sb)))
    (hr : PSs X rest (xS ca X.K W io (evS φ io s))) : PSs X (.While c body [] pos :: rest) (xS ca X.K W io (evS φ io (.while n ec sb s))) := by
  refine PSs.imp (pss_cons (ps_while hp hcn hb) hr) fun D σ H q => ?_
  obtain ⟨Z, ρ, F, s0, q⟩ := q
  unfold evS at q
  have q1 := q.thn
  generalize hD : ({ D with nx := xS ca X.K W io (fun ρ2 => evS φ io s ρ2) D } : Ends) = D' at q1
  have hnx : D'.nx = xS ca X.K W io (fun ρ2 => evS φ io s ρ2) D := by rw [← hD]
  generalize hf : (fun ρ1 => evS φ io sb ρ1) = f at q1
  generalize hg : (fun ρ1 => condR (ev φ .cd ec ρ1)) = g at q1
  refine ⟨fun m σ2 H2 => ∃ ρ2 F2, St X.K Z σ2 H2 ρ2 F2 ∧ PostO ca X.K W Z io σ2 H2 F2 D' (whileM f g m ρ2), ⟨n, ρ, F, s0, q1⟩, ?_⟩
  rintro m σ2 H2 ⟨ρ2, F2, s2, q2⟩
  cases m with
  | zero => exact q2.elim
  | succ m =>
    unfold whileM at q2
    rw [← hg] at q2
    refine ⟨Z, ρ2, F2, s2, q2.go.bind.imp fun t ρ3 h3 => ?_⟩
    split at h3
    · rename_i k
      refine ⟨k, rfl, fun H3 F3 s3 x3 => ?_⟩
      replace h3 := h3.okD
      cases k with
      | false => 
        rw [if_neg Bool.false_ne_true] at h3
        dsimp only
        rw [if_neg Bool.false_ne_true]
        have := h3 σ2 H3 F3 s3 x3 Pin.refl
        rw [hnx] at this
        exact this
      | true =>
        rw [if_pos rfl] at h3
        dsimp only
        rw [if_pos rfl]
        refine ⟨fun σ' H' => ∃ ρ2 F2, St X.K Z σ' H' ρ2 F2 ∧ PostO ca X.K W Z io σ' H' F2 D' (whileM f (fun ρ1 => condR (ev φ .cd ec ρ1)) m ρ2), fun σ' H' h => ⟨m, Nat.lt_succ_self m, by rw [← hg]; exact h⟩, Z, ρ3, F3, s3, ?_⟩
        have ef : evS φ io sb ρ3 = f ρ3 := by rw [← hf]
        rw [ef]
        cases ho : f ρ3 with
        | next ρ' => rw [ho] at h3; exact fun σ' H' F' s' x' p' => ⟨ρ', F', s', h3.rebase (x3.tr x') p'⟩
        | cont ρ' => rw [ho] at h3; exact fun σ' H' F' s' x' p' => ⟨ρ', F', s', h3.rebase (x3.tr x') p'⟩
        | brk ρ' => rw [ho] at h3; exact fun σ' H' F' s' x' p' => by rw [← hnx]; exact h3 σ' H' F' s' (x3.tr x') p'
        | ret t ρ' => rw [ho, ← hD] at h3; exact fun v σ' H' F' g s' x' p' tm => h3 v σ' H' F' g s' (x3.tr x') p' tm
        | exc x0 ρ' => rw [ho] at h3; exact fun cls d σ' H' F' s' x' p' r => h3 cls d σ' H' F' s' (x3.tr x') p' r
        | bad => rw [ho] at h3; exact h3.elim
    · exact h3.elim
end
end Pz
/-! P2q: comprehensions. -/
namespace Pz
open PySem PySem.Spec PyProof.Rows L2
theorem wipe_get {σ : L2.St} {j : Nat} : ∀ {vs : List Nat}, (wipe σ vs)[j]? = if j ∈ vs then (if j < σ.length then some none else none) else σ[j]?
  | [] => by simp [wipe]
  | v :: vs => by
    unfold wipe
    by_cases h : v = j
    · subst h
      by_cases hl : v < σ.length
      · rw [List.getElem?_set_self (by rw [wipe_length]; exact hl)]
        simp [hl]
      · rw [List.getElem?_eq_none (by rw [List.length_set, wipe_length]; omega)]
        simp [hl]
    · rw [List.getElem?_set_ne h, wipe_get]
      have : j ≠ v := fun e => h e.symm
      simp [this]
section
variable {K : Frag} {G H HB V : Hp} {Z ZB : Addr → Prop} {σ σ' : L2.St} {ρ ρ' ρB : Rho} {F FB : List Addr}
theorem Sl.any : ∀ {ρ : Rho} {σ σ' : List (Option L2.V)} {F : List Addr}, Sl K G H ρ σ F → σ'.length = σ.length → (∀ (j : Nat) (t : T), ρ[j]? = some (some t) → σ'[j]? = σ[j]?) → Sl K G H ρ σ' F
  | [], σ, σ', F, h, e, _ => by
    obtain ⟨h1, h2⟩ := h
    subst h1
    exact ⟨List.eq_nil_of_length_eq_zero (by simpa using e), h2⟩
  | o :: ρ, σ, σ', F, h, e, k => by
    obtain ⟨s, r, f1, f2, e1, ef, h1, h2⟩ := h
    subst e1
    cases σ' with
    | nil => cases e
    | cons s' r' =>
      refine ⟨s', r', f1, f2, rfl, ef, ?_, h2.any (by simpa using e) fun j t q => by simpa using k (j + 1) t (by simpa using q)⟩
      cases o with
      | none => exact h1
      | some t =>
        obtain ⟨v, e2, x⟩ := h1
        have := k 0 t rfl
        simp at this
        exact ⟨v, this.trans e2, x⟩
theorem St.any (s : St K Z σ H ρ F) (e : σ'.length = σ.length) (k : ∀ (j : Nat) (t : T), ρ[j]? = some (some t) → σ'[j]? = σ[j]?) : St K Z σ' H ρ F := by
  obtain ⟨F0, x, p⟩ := s.sl
  exact ⟨⟨F0, x.any e k, p⟩, s.nd, s.dz, s.zt⟩
theorem wipeR_none : ∀ {vs : List Nat} {ρ ρ' : Rho} {k : Nat}, wipeR vs ρ = some ρ' → ρ[k]? = some none → ρ'[k]? = some none
  | [], _, _, _, h, e => by cases h; exact e
  | v :: vs, ρ, ρ', k, h, e => by
    unfold wipeR at h
    split at h
    · exact wipeR_none h e
    · rename_i q
      refine wipeR_none h ?_
      by_cases hk : v = k
      · subst hk; rw [q] at e; cases e
      · rw [List.getElem?_set_ne hk]; exact e
    · cases h
theorem wipeR_ok : ∀ {vs : List Nat} {ρ ρ' : Rho} {F : List Addr}, wipeR vs ρ = some ρ' → St K Z σ H ρ F → ∃ F', St K Z σ H ρ' F' ∧ (∀ a ∈ F', a ∈ F) ∧ (∀ k ∈ vs, ρ'[k]? = some none)
  | [], _, _, F, h, s => by cases h; exact ⟨F, s, fun _ h => h, fun _ z => by cases z⟩
  | v :: vs, ρ, ρ', F, h, s => by
    unfold wipeR at h
    split at h
    · rename_i q
      obtain ⟨F', s', sub, k⟩ := wipeR_ok h s
      exact ⟨F', s', sub, fun j hj => (List.mem_cons.mp hj).elim (fun z => z ▸ wipeR_none h q) (k j)⟩
    · rename_i q
      obtain ⟨F1, s1, sub1⟩ := s.drop v
      obtain ⟨F', s', sub, k⟩ := wipeR_ok h s1
      refine ⟨F', s', fun a ha => sub1 a (sub a ha), fun j hj => (List.mem_cons.mp hj).elim (fun z => z ▸ wipeR_none h ?_) (k j)⟩
      rw [List.getElem?_set_self (List.getElem?_eq_some_iff.mp q).1]
    · cases h
theorem St.wiped {vs : List Nat} (s : St K Z σ H ρ F) (h : ∀ k ∈ vs, ρ[k]? = some none) : St K Z (wipe σ vs) H ρ F :=
  s.any (wipe_length σ vs) fun j t e => by
    rw [wipe_get, if_neg (fun z => by rw [h j z] at e; cases e)]
theorem St.unwiped {vs : List Nat} (s : St K Z (wipe σ vs) H ρ F) (h : ∀ k ∈ vs, ρ[k]? = some none) : St K Z σ H ρ F :=
  s.any (wipe_length σ vs).symm fun j t e => by
    rw [wipe_get, if_neg (fun z => by rw [h j z] at e; cases e)]
/-- the slots' leaves as they stood -/
theorem St.restore (sB : St K ZB σ HB ρB FB) (l : Le (vw HB FB ZB) (vw H F Z)) : ∀ {vs : List Nat} {ρ : Rho} {F0 : List Addr}, (∀ k ∈ vs, ρB[k]? = some none ∨ ∃ d, ρB[k]? = some (some (.leaf d))) → St K Z σ H ρ F0 → (∀ a ∈ F0, a ∈ F) →
    ∃ F', St K Z σ H (Pz.restore ρB vs ρ) F' ∧ ∀ a ∈ F', a ∈ F
  | [], ρ, F0, _, s, sub => ⟨F0, s, sub⟩
  | k :: ks, ρ, F0, h, s, sub => by
    unfold Pz.restore
    rcases h k (by simp) with e | ⟨d, e⟩
    · rw [e]
      obtain ⟨F1, s1, sub1⟩ := s.drop k
      exact St.restore sB l (fun j hj => h j (by simp [hj])) s1 fun a ha => sub a (sub1 a ha)
    · rw [e]
      obtain ⟨v, f, e1, o, _⟩ := sB.get (getSlot_iff.mpr e)
      have s0 : St K (zp Z []) σ H ρ F0 := by rw [zp_nil]; exact s
      obtain ⟨F1, s1, sub1⟩ := s0.back (t := .leaf d) e1 ⟨(o.1.le l).le (by rw [zp_nil]; exact vw_le fun b o e n1 n2 => ⟨e, fun z => n1 (sub b z), n2⟩), rfl⟩ List.nodup_nil (fun _ z => by cases z)
      exact St.restore sB l (fun j hj => h j (by simp [hj])) s1 fun a ha => (sub1 a ha).elim (fun z => by cases z) (sub a)
theorem wipeR_leaf : ∀ {vs : List Nat} {ρ ρ' : Rho}, wipeR vs ρ = some ρ' → ∀ k ∈ vs, ρ[k]? = some none ∨ ∃ d, ρ[k]? = some (some (.leaf d))
  | [], _, _, _, k, hk => by cases hk
  | v :: vs, ρ, ρ', h, k, hk => by
    unfold wipeR at h
    split at h
    · rename_i q
      rcases List.mem_cons.mp hk with z | z
      · subst z; exact .inl q
      · exact wipeR_leaf h k z
    · rename_i q
      rcases List.mem_cons.mp hk with z | z
      · subst z; exact .inr ⟨_, q⟩
      · by_cases e : v = k
        · subst e; exact .inr ⟨_, q⟩
        · have := wipeR_leaf h k z
          rw [List.getElem?_set_ne e] at this
          exact this
    · cases h
mutual
theorem BindR.len : ∀ {p : Pat} {d : PyData} {σ σ' : L2.St}, BindR K G p d σ σ' → σ'.length = σ.length
  | .v k, d, σ, σ', b => by
    obtain ⟨v, _, e⟩ := b
    subst e
    simp
  | .tup ps, .tuple ds, σ, σ', b => BindRs.len (show BindRs K G ps ds σ σ' from b)
  | .tup _, .none, _, _, h => by cases h
  | .tup _, .bool _, _, _, h => by cases h
  | .tup _, .int _, _, _, h => by cases h
  | .tup _, .str _, _, _, h => by cases h
  | .tup _, .list _, _, _, h => by cases h
  | .tup _, .dict _, _, _, h => by cases h
theorem BindRs.len : ∀ {ps : List Pat} {ds : List PyData} {σ σ' : L2.St}, BindRs K G ps ds σ σ' → σ'.length = σ.length
  | [], [], _, _, b => by cases b; rfl
  | p :: ps, d :: ds, _, _, b => by
    obtain ⟨σ1, b1, b2⟩ := b
    exact (BindRs.len b2).trans (BindR.len b1)
  | [], _ :: _, _, _, h => by cases h
  | _ :: _, [], _, _, h => by cases h
end
end
section
variable {X : Cx} {φ : Nat → List T → FR} {ca : Nat → Addr} {W : WX} {m : M}
abbrev W0 : WX := fun _ _ _ _ => False
def tTest (φ : Nat → List T → FR) (ca : Nat → Addr) (K : Frag) (c : E) : TT := if isNop c = true then tYes else xC φ ca K W0 c
theorem test_read {K : Frag} {Z : Addr → Prop} {σ : L2.St} {H : Hp} {ρ ρ' : Rho} {F : List Addr} {c : E} {k : Bool} {Q : Bool → Hp → Prop} (s : St K Z σ H ρ F) (e : yesR (isNop c) (ev φ .cd c ρ) ρ = .ok k ρ')
    (h : ∀ H' F', St K Z σ H' ρ' F' → Ext false H F H' F' → Q k H') : tTest φ ca K c σ H Q := by
  unfold tTest
  unfold yesR at e
  split at e
  · rename_i hn
    cases e
    rw [if_pos hn]
    exact h H F s Ext.refl
  · rename_i hn
    rw [if_neg hn]
    refine ⟨Z, ρ, F, s, ?_⟩
    cases q : ev φ .cd c ρ with
    | ok t ρ1 =>
      rw [q] at e
      simp only [R.bind] at e
      split at e
      · cases e
        exact ⟨_, rfl, h⟩
      · cases e
    | exc x ρ1 => rw [q] at e; cases e
    | bad => rw [q] at e; cases e
theorem bind_ok {α β : Type} {r : R α} {f : α → Rho → R β} {b : β} {ρ : Rho} (h : r.bind f = .ok b ρ) : ∃ a ρ1, r = .ok a ρ1 ∧ f a ρ1 = .ok b ρ := by
  cases r with
  | ok a ρ1 => exact ⟨a, ρ1, rfl, h⟩
  | exc x ρ1 => cases h
  | bad => cases h
theorem lc_read {K : Frag} {it : It} {p : Pat} {e c : E} {σ : L2.St} {H : Hp} {Q : VK} (hm : m ≠ .cd) (q : xE φ ca K W m (.comp e p it c) σ H Q) :
    tLc (xI φ ca K W it) (gP K p) (tTest φ ca K c) (xE φ ca K W0 .mv e) (patVs p) σ H Q := by
  obtain ⟨Z, ρ, F, s, q⟩ := q
  unfold ev at q
  rw [fin_ne hm] at q
  refine ⟨Z, ρ, F, s, q.bind.imp fun ds ρ1 q1 J H1 F1 fp s1 n1 d1 k1 x1 bk gv D nD => ?_⟩
  obtain ⟨fo, hfo, bk⟩ := bk
  split at q1
  · exact q1.elim
  rename_i hio
  split at q1
  case h_2 => exact q1.elim
  rename_i ρ2 hw
  generalize hvs : patVs p = vs at *
  generalize hf : (fun (d : PyData) (ρ3 : Rho) => match bindP p d ρ3 with
      | some ρ4 => (yesR (isNop c) (ev φ .cd c ρ4) ρ4).bind fun k ρ5 => (if k = true then (ev φ .mv e ρ5).bind fun t ρ6 => (match wipeR vs ρ6 with
          | some ρ7 => Pz.R.ok (some t) ρ7
          | none => .bad)
        else (match wipeR vs ρ5 with
          | some ρ7 => Pz.R.ok none ρ7
          | none => .bad))
      | none => .bad) = f at q1
  cases hcm : compM f ds ρ2 with
  | exc x ρ8 => rw [hcm] at q1; exact q1.elim
  | bad => rw [hcm] at q1; exact q1.elim
  | ok tsAll ρ8 =>
  rw [hcm] at q1
  simp only [nox, R.bind] at q1
  split at q1
  case isFalse => exact q1.elim
  rename_i hlen
  replace q1 : Post K Z σ H F m (.comp e p it c) (.lst tsAll) (putIt ρ1 it (restore (takeIt it ρ1) vs ρ8)) Q := q1
  have s1' : St K (zp (zp Z fp) []) σ H1 (takeIt it ρ1) F1 := by rw [zp_nil]; exact s1
  have nDF : D ∉ F1 := fun z => by obtain ⟨o, q⟩ := s1.alive D z; rw [nD] at q; cases q
  have nDZ : ¬ zp Z fp D := fun z => by obtain ⟨o, q⟩ := s1.zt D z; rw [nD] at q; cases q
  have sD : St K (zp (zp Z fp) [D]) σ (upd H1 D (.lst [])) (takeIt it ρ1) F1 := s1'.own nD fun _ z => by cases z
  obtain ⟨F2, s2, sub2, wn2⟩ := wipeR_ok hw sD
  refine lc_it (g := gP K p) (tt := tTest φ ca K c) (te := xE φ ca K W0 .mv e) (vs := vs) gv (fun i H' => ∃ ρ3 F3 ts fa acc, St K (zp (zp Z fp) (D :: fa)) (wipe σ vs) H' ρ3 F3 ∧ Ext false H1 F1 H' (F3 ++ (D :: fa)) ∧ H' D = some (.lst acc) ∧
    OwL K (vw H' F3 (zp (zp Z fp) (D :: fa))) H' ts acc fa ∧ (D :: fa).Nodup ∧ (∀ a ∈ fa, ¬ zp Z fp a) ∧ (∀ k ∈ vs, ρ3[k]? = some none) ∧ ∃ ts', compM f (ds.drop i) ρ3 = .ok ts' ρ8 ∧ ts ++ ts' = tsAll) ?_ ?_ ?_ ?_
  · refine ⟨ρ2, F2, [], [], [], s2.wiped wn2, ⟨fun b o q n => le_alloc nD b o q, fun a ha => ?_, fun z => by cases z⟩, upd_same, ⟨rfl, rfl⟩, by simp, (fun _ z => by cases z), wn2, tsAll, by rw [List.drop_zero]; exact hcm, rfl⟩
    rcases List.mem_append.mp ha with h | h
    · exact .inl (sub2 a h)
    · have : a = D := by simpa using h
      subst this
      exact .inr nD
  · rintro i H' hi ⟨ρ3, F3, ts, fa, acc, s3, x3, _⟩ b o q
    obtain ⟨n, q⟩ := hid_some.mp q
    exact x3.keep b o q n
  · rintro i x H3 H4 hi ⟨ρ3, F3, ts, fa, acc, s3, x3, hD, ow, nd, dfa, wn, ts', hc', ets⟩ ⟨d, G, e1, l1, r1, l2, nw⟩
    have hd : ds.drop i = d :: ds.drop (i + 1) := by
      have h := List.drop_eq_getElem_cons hi
      rw [List.getElem?_eq_getElem hi] at e1
      cases e1
      exact h
    rw [hd] at hc'
    unfold compM at hc'
    obtain ⟨o, ρ7, hfo', hc2⟩ := bind_ok hc'
    obtain ⟨ts2, ρ9, hc3, hc4⟩ := bind_ok hc2
    cases hc4
    have s4 := s3.grow l1
    have vG : Le G (vw H4 F3 (zp (zp Z fp) (D :: fa))) := fun b o e => by
      refine hid_some.mpr ⟨fun z => ?_, l2 b o e⟩
      rcases nw b o e with y | y
      · obtain ⟨n, q⟩ := hid_some.mp y
        rcases z with z | z | z
        · rcases x3.sub b (by simp [z]) with w | w
          · exact n (.inl w)
          · rw [w] at q; cases q
        · exact n (.inr z)
        · rcases x3.sub b (List.mem_append.mpr (.inr z)) with w | w
          · exact n (.inl w)
          · rw [w] at q; cases q
      · rcases z with z | z
        · obtain ⟨o', q⟩ := s3.alive b z; rw [y] at q; cases q
        · obtain ⟨o', q⟩ := s3.zt b z; rw [y] at q; cases q
    rw [← hf] at hfo'
    dsimp only at hfo'
    split at hfo'
    case h_2 => cases hfo'
    rename_i ρ4 hb
    obtain ⟨kk, ρ5, hy, hrest⟩ := bind_ok hfo'
    refine ⟨G, d, l2, r1, bindP_fits hb, fun σ2 b2 => ?_⟩
    obtain ⟨F4, s5, sub4, kp⟩ := bind_st hb s4 vG (fun _ h => h) b2
    have hlenσ : σ2.length = σ.length := by rw [b2.len, wipe_length]
    have ew : wipe σ2 vs = wipe σ vs := by
      apply List.ext_getElem?
      intro j
      rw [wipe_get, wipe_get, hlenσ]
      by_cases hj : j ∈ vs
      · rw [if_pos hj, if_pos hj]
      · rw [if_neg hj, if_neg hj, kp j (by rw [hvs]; exact hj), wipe_get, if_neg hj]
    refine ⟨ew, test_read s5 hy fun H5 F5 s6 x6 => ?_⟩
    have x4 : Ext false H3 F3 H4 F4 := ⟨fun b o e _ => l1 b o e, fun a h => .inl (sub4 a h), fun z => by cases z⟩
    have x46 := x4.tr x6
    have zD : zp (zp Z fp) (D :: fa) D := .inr (by simp)
    have hD5 : H5 D = some (.lst acc) := x46.keep D _ hD fun z => s3.dz D z zD
    have zfa : ∀ a ∈ fa, zp (zp Z fp) (D :: fa) a := fun a h => .inr (by simp [h])
    have ow5 : OwL K (vw H5 F5 (zp (zp Z fp) (D :: fa))) H5 ts acc fa := by
      have x46' : Ext false H3 F3 H5 (F5 ++ []) := by rw [List.append_nil]; exact x46
      have v := x46'.view (Z := zp (zp Z fp) (D :: fa))
      rw [zp_nil] at v
      exact ow.le v fun a ha o q => x46.keep a o q fun z => s3.dz a z (zfa a ha)
    have xb : Ext false H1 F1 H5 (F5 ++ (D :: fa)) := by
      refine ⟨fun b o q n => x46.keep b o (x3.keep b o q n) (fun z => (x3.sub b (by simp [z])).elim n fun w => by rw [w] at q; cases q), fun a ha => ?_, fun z => by cases z⟩
      rcases List.mem_append.mp ha with h | h
      · rcases x46.sub a h with w | w
        · exact x3.sub a (by simp [w])
        · cases q : H1 a with
          | none => exact .inr rfl
          | some o =>
            by_cases hF : a ∈ F1
            · exact .inl hF
            · rw [x3.keep a o q hF] at w; cases w
      · exact x3.sub a (List.mem_append.mpr (.inr h))
    have hl0 := ow.len
    cases kk with
    | false =>
      rw [if_neg Bool.false_ne_true] at hrest ⊢
      split at hrest
      · rename_i ρ7' hw7
        cases hrest
        obtain ⟨F7, s7, sub7, wn7⟩ := wipeR_ok hw7 s6
        have s8 := s7.wiped wn7
        rw [ew] at s8
        refine ⟨_, F7, ts, fa, acc, s8, ⟨xb.keep, fun a ha => ?_, fun z => by cases z⟩, hD5, ow5.le ?_ (fun _ _ _ q => q), nd, dfa, wn7, ts2, hc3, by simpa using ets⟩
        · rcases List.mem_append.mp ha with h | h
          · exact xb.sub a (by simp [sub7 a h])
          · exact xb.sub a (List.mem_append.mpr (.inr h))
        · exact vw_le fun b o e n1 n2 => ⟨e, fun z => n1 (sub7 b z), n2⟩
      · cases hrest
    | true =>
      rw [if_pos rfl] at hrest ⊢
      obtain ⟨t, ρ6, he, hrest⟩ := bind_ok hrest
      split at hrest
      case h_2 => cases hrest
      rename_i ρ7' hw7
      cases hrest
      refine ⟨_, ρ5, F5, s6, ?_⟩
      rw [he]
      show Post K _ σ2 H5 F5 .mv e t ρ6 _
      intro y H6 F6 fe s7 x7 a7
      obtain ⟨ne, de, oe⟩ := a7.mv
      have hD6 : H6 D = some (.lst acc) := x7.keep D _ hD5 fun z => s6.dz D z zD
      refine ⟨acc, hD6, ?_, ?_⟩
      · have : ts.length + 1 ≤ tsAll.length := by rw [← ets]; simp
        omega
      · have ez : zp (zp (zp Z fp) (D :: fa)) fe = zp (zp Z fp) (D :: (fa ++ fe)) := by
          rw [zp_zp]; rfl
        have ow6 : OwL K (vw H6 F6 (zp (zp (zp Z fp) (D :: fa)) fe)) H6 ts acc fa := ow5.le x7.view fun a ha o q => x7.keep a o q fun z => s6.dz a z (zfa a ha)
        rw [ez] at s7 oe ow6
        have s8 : St K (zp (zp Z fp) (D :: (fa ++ fe))) σ2 (upd H6 D (.lst (acc ++ [y]))) ρ6 F6 := s7.wr (.inr (by simp))
        obtain ⟨F7, s9, sub7, wn7⟩ := wipeR_ok hw7 s8
        have s10 := s9.wiped wn7
        rw [ew] at s10
        have nDe : D ∉ fe := fun z => de D z zD
        have ndd := List.nodup_cons.mp nd
        have view : Le (vw H6 F6 (zp (zp Z fp) (D :: (fa ++ fe)))) (vw (upd H6 D (.lst (acc ++ [y]))) F7 (zp (zp Z fp) (D :: (fa ++ fe)))) := vw_le fun b o e n1 n2 => ⟨by rw [upd_ne (fun (z : b = D) => n2 (.inr (by simp [z])))]; exact e, fun z => n1 (sub7 b z), n2⟩
        refine ⟨_, F7, ts ++ [t], fa ++ fe, acc ++ [y], s10, ⟨fun b o q n => ?_, fun a ha => ?_, fun z => by cases z⟩, upd_same, ?_, ?_, fun a ha z => ?_, wn7, ts2, hc3, by simpa using ets⟩
        · rw [upd_ne (fun (z : b = D) => by subst z; rw [nD] at q; cases q)]
          exact x7.keep b o (xb.keep b o q n) fun z => (xb.sub b (by simp [z])).elim n fun w => by rw [w] at q; cases q
        · have old : H5 a = none → a ∈ F1 ∨ H1 a = none := fun w => by
            cases q : H1 a with
            | none => exact .inr rfl
            | some o =>
              by_cases hF : a ∈ F1
              · exact .inl hF
              · rw [xb.keep a o q hF] at w; cases w
          rcases List.mem_append.mp ha with h | h
          · rcases x7.sub a (by simp [sub7 a h]) with w | w
            · exact xb.sub a (by simp [w])
            · exact old w
          · rcases List.mem_cons.mp h with h | h
            · exact xb.sub a (by simp [h])
            · rcases List.mem_append.mp h with h | h
              · exact xb.sub a (by simp [h])
              · rcases x7.sub a (by simp [h]) with w | w
                · exact xb.sub a (by simp [w])
                · exact old w
        · refine OwL.append (ow6.le view fun a ha o q => ?_) (OwL.one (oe.le view fun a ha o q => ?_))
          · rw [upd_ne (fun (z : a = D) => ndd.1 (by rw [← z]; exact ha))]; exact q
          · rw [upd_ne (fun (z : a = D) => nDe (by rw [← z]; exact ha))]; exact q
        · refine List.nodup_cons.mpr ⟨fun z => ?_, List.nodup_append.mpr ⟨ndd.2, ne, fun a ha b hb z => ?_⟩⟩
          · rcases List.mem_append.mp z with z | z
            · exact ndd.1 z
            · exact nDe z
          · subst z
            exact de a hb (.inr (by simp [ha]))
        · rcases List.mem_append.mp ha with h | h
          · exact dfa a h z
          · exact de a h (.inl z)
  · rintro H9 ⟨ρ3, F3, ts, fa, acc, s3, x3, hD, ow, nd, dfa, wn, ts', hc', ets⟩
    rw [List.drop_eq_nil_of_le (Nat.le_refl _)] at hc'
    cases hc'
    rw [List.append_nil] at ets
    subst ets
    have s4 := s3.unwiped wn
    have x3v : Le (vw H1 F1 (zp Z fp)) (vw H9 F3 (zp (zp Z fp) (D :: fa))) := x3.view
    obtain ⟨F5, s5, sub5⟩ := St.restore s1 x3v (wipeR_leaf hw) s4 (fun _ h => h)
    have dD : ∀ a ∈ fp, a ∉ (D :: fa) := fun a ha h => by
      rcases List.mem_cons.mp h with h | h
      · exact nDZ (.inr (h ▸ ha))
      · exact dfa a h (.inr ha)
    have s5' := s5.unz (Z := zp (zp Z (D :: fa)) fo) fun b z => by
      rcases z with (z | z) | z
      · exact .inl (.inl z)
      · exact .inr z
      · exact .inl (.inr (hfo b z))
    obtain ⟨F6, s6, sub6⟩ := bk (zp Z (D :: fa)) σ H9 _ F5 s5' (fun a ha z => z.elim (d1 a (hfo a ha)) (dD a (hfo a ha))) (fun b o e => by
      have := hid_some.mp (x3v b o e)
      refine hid_some.mpr ⟨fun z => this.1 ?_, this.2⟩
      rcases z with z | (z | z) | z
      · exact .inl (sub5 b z)
      · exact .inr (.inl (.inl z))
      · exact .inr (.inr z)
      · exact .inr (.inl (.inr (hfo b z)))) (fun a ha o q => x3.keep a o q (k1 a (hfo a ha))) (fun _ _ => rfl)
    refine q1 (.ref D) H9 F6 (D :: fa) s6 ⟨fun b o q n => ?_, fun a ha => ?_, fun z => by cases z⟩ ⟨nd, fun a ha z => ?_, D, acc, fa, rfl, hD, rfl, ow.le ?_ (fun _ _ _ q => q)⟩
    · refine x3.keep b o (x1.keep b o q n) fun z => ?_
      rcases x1.sub b (by simp [z]) with w | w
      · exact n w
      · rw [w] at q; cases q
    · have old : ∀ a, H1 a = none → a ∈ F ∨ H a = none := fun a w => by
        cases q : H a with
        | none => exact .inr rfl
        | some o =>
          by_cases hF : a ∈ F
          · exact .inl hF
          · rw [x1.keep a o q hF] at w; cases w
      have from3 : a ∈ F3 ++ (D :: fa) → a ∈ F ∨ H a = none := fun h => by
        rcases x3.sub a h with w | w
        · exact x1.sub a (by simp [w])
        · exact old a w
      rcases List.mem_append.mp ha with h | h
      · rcases sub6 a h with w | w
        · exact x1.sub a (by simp [hfo a w])
        · exact from3 (by simp [sub5 a w])
      · exact from3 (List.mem_append.mpr (.inr h))
    · rcases List.mem_cons.mp ha with h | h
      · subst h; exact nDZ (.inl z)
      · exact dfa a h (.inl z)
    · refine vw_le fun b o e n1 n2 => ⟨e, fun z => ?_, fun z => ?_⟩
      · rcases sub6 b z with w | w
        · exact n2 (.inl (.inr (hfo b w)))
        · exact n1 (sub5 b w)
      · rcases z with z | z
        · exact n2 (.inl (.inl z))
        · exact n2 (.inr z)
end
end Pz
/-! P2r: comprehensions in their places; calls. -/
namespace Pz
open PySem PySem.Spec PyProof.Rows L2
section
variable {X : Cx} {φ : Nat → List T → FR} {ca : Nat → Addr} {W : WX} {m : M} {io : List Nat} {elt tg iter : Expr} {ifs : List Expr} {scope : Scope} {pos spos py : Pos} {e c : E} {p : Pat} {it : It} {rest : List Stmt} {s : S}
theorem c_comp {own : List (Str × Nat)} (hown : own.map (·.2) = patVs p) (hm : m ≠ .cd) (hc : X.calm = true) (hN : X.N.Nodup) (hi : PI X tg iter (xI φ ca X.K W it)) (ok : BlkOk X.N X.env.scope scope own)
    (hg : ∀ (s : Shared) (H : Hp) (C : Addr) (cl : List (Str × Addr)) (fp : List Addr), PG (X.blk s H scope (compEnvC scope cl C X.env) fp) tg (gP X.K p)) (ht : ∀ (s : Shared) (H : Hp) (C : Addr) (cl : List (Str × Addr)) (fp : List Addr), PTs (X.blk s H scope (compEnvC scope cl C X.env) fp) ifs (tTest φ ca X.K c))
    (he : ∀ (s : Shared) (H : Hp) (C : Addr) (cl : List (Str × Addr)) (fp : List Addr), PE (X.blk s H scope (compEnvC scope cl C X.env) fp) elt (xE φ ca X.K W0 .mv e)) (hs : ∀ x, foldedSetIterable iter X.env x = pure x) :
    PE X (.ListComp elt [⟨tg, iter, ifs, 0⟩] scope pos) (xE φ ca X.K W m (.comp e p it c)) := by
  refine PE.imp (pe_lc hc hN hi ok hg ht he hs) fun σ H Q q => ?_
  rw [hown]
  exact lc_read hm q
theorem c_setcomp {k : Nat} {y : Str} {own : List (Str × Nat)} (hown : own.map (·.2) = patVs p) (hc : X.calm = true) (hN : X.N.Nodup) (hy : X.N[k]? = some y) (hyl : X.env.scope.names.lookup y = some .local)
    (hsw : swapsWith (.ListComp elt [⟨tg, iter, ifs, 0⟩] scope pos) (some (.Name y py)) spos.line X.env = pure true) (hi : PI X tg iter (xI φ ca X.K W it)) (ok : BlkOk X.N X.env.scope scope own)
    (hg : ∀ (s : Shared) (H : Hp) (C : Addr) (cl : List (Str × Addr)) (fp : List Addr), PG (X.blk s H scope (compEnvC scope cl C X.env) fp) tg (gP X.K p)) (ht : ∀ (s : Shared) (H : Hp) (C : Addr) (cl : List (Str × Addr)) (fp : List Addr), PTs (X.blk s H scope (compEnvC scope cl C X.env) fp) ifs (tTest φ ca X.K c))
    (he : ∀ (s : Shared) (H : Hp) (C : Addr) (cl : List (Str × Addr)) (fp : List Addr), PE (X.blk s H scope (compEnvC scope cl C X.env) fp) elt (xE φ ca X.K W0 .mv e)) (hs : ∀ x, foldedSetIterable iter X.env x = pure x)
    (hr : PSs X rest (xS ca X.K W io (evS φ io s))) : PSs X (.Assign [.Name y py] (.ListComp elt [⟨tg, iter, ifs, 0⟩] scope pos) spos :: rest) (xS ca X.K W io (evS φ io (.set k (.comp e p it c) s))) := by
  refine PSs.imp (pss_cons (ps_setLc hc hN hy hyl hsw hi ok hg ht he hs) hr) fun D σ H q => ?_
  rw [hown]
  obtain ⟨Z, ρ, F, s0, q⟩ := q
  unfold evS at q
  show tLc (xI φ ca X.K W it) (gP X.K p) (tTest φ ca X.K c) (xE φ ca X.K W0 .mv e) (patVs p) σ H fun x H1 => xS ca X.K W io (evS φ io s) D (σ.set k (some x)) H1
  refine lc_read (W := W) (m := .mv) (by decide) ⟨Z, ρ, F, s0, q.go.imp fun t ρ1 h1 => fun v H1 F1 f1 s1 x1 a1 => ?_⟩
  split at h1
  · rename_i ρ2 e2
    obtain ⟨nk, lk, e3⟩ := setSlot_some e2
    subst e3
    obtain ⟨n1, d1, o1⟩ := a1.mv
    obtain ⟨F2, s2, sub⟩ := s1.store lk o1 n1 d1
    exact ⟨Z, _, F2, s2, h1.rebase (x1.put sub) (Pin.set nk)⟩
  · exact h1.elim
end
/-! ### calls -/
def OwO (K : Frag) (G H : Hp) : List (Option T) → List V → List Addr → Prop
  | [], vs, fp => vs = [] ∧ fp = []
  | none :: os, vs, fp => ∃ v r, vs = v :: r ∧ OwO K G H os r fp
  | some t :: os, vs, fp => ∃ v r f1 f2, vs = v :: r ∧ fp = f1 ++ f2 ∧ Ow K G H t v f1 ∧ OwO K G H os r f2
/-- what a function promises -/
def spF (φ : Nat → List T → FR) (ca : Nat → Addr) (K : Frag) (f np : Nat) : Sp := fun vs H Q E => ∃ Z ts fp, (∀ a, Z a → ∃ o, H a = some o) ∧ fp.Nodup ∧ (∀ a ∈ fp, ¬ Z a) ∧ OwL K (vw H [] (zp Z fp)) H ts vs fp ∧ vs.length = np ∧
  match φ f ts with
  | .ret t outs => ∀ v H' fo fr, (fo ++ fr).Nodup → (∀ a ∈ fo ++ fr, ¬ Z a) → OwO K (vw H' [] (zp Z (fo ++ fr))) H' outs vs fo → Ow K (vw H' [] (zp Z (fo ++ fr))) H' t v fr → Ext false H fp H' (fo ++ fr) → Q v H'
  | .exc x outs => ∀ cls d H' fo, fo.Nodup → (∀ a ∈ fo, ¬ Z a) → OwO K (vw H' [] (zp Z fo)) H' outs vs fo → Ext false H fp H' fo → ExR ca K (vw H' [] (zp Z fo)) H' x cls d → E cls d H'
  | .bad => False
section
variable {K : Frag} {G G' H H' : Hp} {Z Zx : Addr → Prop} {σ : L2.St} {ρ : Rho} {F fp : List Addr}
theorem OwO.view (l : Le G G') : ∀ {os : List (Option T)} {vs : List V} {fp : List Addr}, OwO K G H os vs fp → OwO K G' H os vs fp
  | [], _, _, h => h
  | none :: os, _, _, h => by
    obtain ⟨v, r, e, h⟩ := h
    exact ⟨v, r, e, h.view l⟩
  | some t :: os, _, _, h => by
    obtain ⟨v, r, f1, f2, e, ef, o, h⟩ := h
    exact ⟨v, r, f1, f2, e, ef, o.view l, h.view l⟩
theorem OwO.alive : ∀ {os : List (Option T)} {vs : List V} {fp : List Addr}, OwO K G H os vs fp → ∀ a ∈ fp, ∃ o, H a = some o
  | [], _, _, h, a, ha => by rw [h.2] at ha; cases ha
  | none :: os, _, _, h, a, ha => by
    obtain ⟨v, r, e, h⟩ := h
    exact h.alive a ha
  | some t :: os, _, _, h, a, ha => by
    obtain ⟨v, r, f1, f2, e, ef, o, h⟩ := h
    subst ef
    rcases List.mem_append.mp ha with z | z
    · exact o.alive a z
    · exact h.alive a z
/-- behind a call -/
theorem St.call {g : List Addr} (s : St K (zp Z fp) σ H ρ F) (x : Ext false H fp H' g) (dz : ∀ a ∈ g, ¬ (Z a ∨ a ∈ F)) (dp : ∀ a ∈ fp, ¬ Z a) (al : ∀ a ∈ g, ∃ o, H' a = some o) : St K (zp Z g) σ H' ρ F := by
  obtain ⟨F0, sl, pm⟩ := s.sl
  refine ⟨⟨F0, sl.le (vw_le fun b o q n1 n2 => ⟨x.keep b o q fun z => n2 (.inr z), n1, fun z => ?_⟩) (fun a ha o q => x.keep a o q fun z => s.dz a (pm.mem_iff.mp ha) (.inr z)), pm⟩, s.nd, fun a ha z => ?_, fun a z => ?_⟩
  · rcases z with z | z
    · exact n2 (.inl z)
    · rcases x.sub b z with w | w
      · exact n2 (.inr w)
      · rw [w] at q; cases q
  · rcases z with z | z
    · exact s.dz a ha (.inl z)
    · exact dz a z (.inr ha)
  · rcases z with z | z
    · obtain ⟨o, q⟩ := s.zt a (.inl z)
      exact ⟨o, x.keep a o q fun w => dp a w z⟩
    · exact al a z
theorem putBack_ok : ∀ {es : Es} {os : List (Option T)} {vs : List V} {fo : List Addr} {Zx : Addr → Prop} {ρ : Rho} {F : List Addr}, St K (zp Zx fo) σ H ρ F → OwO K (vw H F (zp Zx fo)) H os vs fo → ArgV σ es vs → fo.Nodup → (∀ a ∈ fo, ¬ Zx a) →
    ∃ F', St K Zx σ H (putBack es os ρ) F' ∧ ∀ a ∈ F', a ∈ fo ∨ a ∈ F := by
  intro es os
  induction os generalizing es with
  | nil =>
    intro vs fo Zx ρ F s o g nd dz
    have : putBack es [] ρ = ρ := by
      cases es with
      | nil => rfl
      | cons e es => cases e <;> rfl
    rw [this]
    exact ⟨F, s.unz fun a z => .inl z, fun a h => .inr h⟩
  | cons o0 os ih =>
    intro vs fo Zx ρ F s o g nd dz
    cases es with
    | nil => exact ⟨F, (s.unz fun a z => .inl z), fun a h => .inr h⟩
    | cons e es =>
      cases o0 with
      | none =>
        obtain ⟨v, r, e1, o⟩ := o
        subst e1
        have : putBack (.cons e es) (none :: os) ρ = putBack es os ρ := by cases e <;> rfl
        rw [this]
        refine ih s o ?_ nd dz
        cases e <;> first | exact g | exact g.2
      | some t =>
        obtain ⟨v, r, f1, f2, e1, ef, ow, o⟩ := o
        subst e1 ef
        have ndd := List.nodup_append.mp nd
        by_cases hv : ∃ k, e = .var k
        · obtain ⟨k, e2⟩ := hv
          subst e2
          have ez : zp Zx (f1 ++ f2) = zp (zp Zx f2) f1 := by
            funext b
            simp [zp]
            exact ⟨fun h => by rcases h with h | h | h <;> simp [h], fun h => by rcases h with (h | h) | h <;> simp [h]⟩
          rw [ez] at s ow o
          obtain ⟨F3, s3, sb3⟩ := s.back g.1 ow ndd.1 (fun a ha z => z.elim (dz a (by simp [ha])) fun z => ndd.2.2 a ha a z rfl)
          have l3 : Le (vw H F (zp (zp Zx f2) f1)) (vw H F3 (zp Zx f2)) := vw_le fun b o e n1 n2 => ⟨e, fun z => (sb3 b z).elim (fun z => n2 (.inr z)) n1, fun z => n2 (.inl z)⟩
          obtain ⟨F4, s4, sb4⟩ := ih s3 (o.view l3) g.2 ndd.2.1 (fun a ha => dz a (by simp [ha]))
          refine ⟨F4, s4, fun a h => ?_⟩
          rcases sb4 a h with z | z
          · exact .inl (by simp [z])
          · rcases sb3 a z with z | z
            · exact .inl (by simp [z])
            · exact .inr z
        · have : putBack (.cons e es) (some t :: os) ρ = putBack es os ρ := by
            cases e <;> first | rfl | exact absurd ⟨_, rfl⟩ hv
          rw [this]
          have ga : ArgV σ es r := by cases e <;> first | exact g | exact g.2
          have s2 : St K (zp Zx f2) σ H ρ F := s.unz fun b z => by
            rcases z with z | z
            · exact .inl z
            · exact .inr (by simp [z])
          have l2 : Le (vw H F (zp Zx (f1 ++ f2))) (vw H F (zp Zx f2)) := vw_le fun b o e n1 n2 => ⟨e, n1, fun z => n2 (by
            rcases z with z | z
            · exact .inl z
            · exact .inr (by simp [z]))⟩
          obtain ⟨F4, s4, sb4⟩ := ih s2 (o.view l2) ga ndd.2.1 (fun a ha => dz a (by simp [ha]))
          exact ⟨F4, s4, fun a h => (sb4 a h).imp (fun z => by simp [z]) id⟩
end
section
variable {X : Cx} {φ φ' : Nat → List T → FR} {ca : Nat → Addr} {W : WX} {m : M} {e : Expr} {es : List Expr} {ees : Es} {pos p : Pos}
/-- what the caller sees -/
theorem call_read {f np : Nat} {σ : L2.St} {H : Hp} {Q : VK} (hm : m ≠ .cd) (hlen : ∀ ts t outs x, φ f ts = .ret t outs ∨ φ f ts = .exc x outs → ts.length = np) (q : xE φ ca X.K W m (.call f ees) σ H Q) :
    tCallS (spF φ ca X.K f np) (WE W) (xA φ ca X.K W ees) σ H Q := by
  obtain ⟨Z, ρ, F, s, q⟩ := q
  unfold ev at q
  rw [fin_ne hm] at q
  refine ⟨Z, ρ, F, s, q.bind.imp fun ts ρ1 h1 => fun vs H1 F1 fp s1 x1 a1 g1 => ?_⟩
  obtain ⟨n1, d1, o1⟩ := a1
  have nF : ∀ a ∈ fp, a ∉ F1 := fun a ha z => s1.dz a z (.inr ha)
  have hl : vs.length = np := by
    rw [← o1.len]
    cases q : φ f ts with
    | ret t outs => exact hlen ts t outs ⟨0, []⟩ (.inl q)
    | exc x outs => exact hlen ts (.leaf .none) outs x (.inr q)
    | bad => rw [q] at h1; exact h1.elim
  have grow : ∀ {H' : Hp} {g : List Addr}, Ext false H1 fp H' g → Ext false H F H' (F1 ++ g) := fun {H' g} x => by
    refine ⟨fun b o q n => x.keep b o (x1.keep b o q n) fun z => ?_, fun a ha => ?_, fun z => by cases z⟩
    · rcases x1.sub b (by simp [z]) with w | w
      · exact n w
      · rw [w] at q; cases q
    · rcases List.mem_append.mp ha with h | h
      · exact x1.sub a (by simp [h])
      · rcases x.sub a h with w | w
        · exact x1.sub a (by simp [w])
        · cases q : H a with
          | none => exact .inr rfl
          | some o =>
            by_cases hF : a ∈ F
            · exact .inl hF
            · rw [x1.keep a o q hF] at w; cases w
  refine ⟨fun b => Z b ∨ b ∈ F1, ts, fp, fun a z => z.elim (fun z => s1.zt a (.inl z)) (s1.alive a), n1, fun a ha z => z.elim (d1 a ha) (nF a ha), o1.le (vw_le fun b o e n1 n2 => ⟨e, by simp, fun z => ?_⟩) (fun _ _ _ q => q), hl, ?_⟩
  · rcases z with (z | z) | z
    · exact n2 (.inl z)
    · exact n1 z
    · exact n2 (.inr z)
  · cases q : φ f ts with
    | bad => rw [q] at h1; exact h1.elim
    | ret t outs =>
      rw [q] at h1
      replace h1 : Post X.K Z σ H F m (.call f ees) t (putBack ees outs ρ1) Q := h1
      intro v H' fo fr nd dz oo ot x
      have nd' := List.nodup_append.mp nd
      have s2 : St X.K (zp Z (fo ++ fr)) σ H' ρ1 F1 := s1.call x dz d1 fun a ha => (List.mem_append.mp ha).elim (oo.alive a) (ot.alive a)
      have ez : zp Z (fo ++ fr) = zp (zp Z fr) fo := by
        funext b
        simp [zp]
        exact ⟨fun h => by rcases h with h | h | h <;> simp [h], fun h => by rcases h with (h | h) | h <;> simp [h]⟩
      have s3 := s2
      rw [ez] at s3
      have l3 : Le (vw H' [] (zp (fun b => Z b ∨ b ∈ F1) (fo ++ fr))) (vw H' F1 (zp (zp Z fr) fo)) := vw_le fun b o e n1 n2 => ⟨e, fun z => n2 (.inl (.inr z)), fun z => n2 (by
        rcases z with (z | z) | z
        · exact .inl (.inl z)
        · exact .inr (by simp [z])
        · exact .inr (by simp [z]))⟩
      obtain ⟨F4, s4, sb4⟩ := putBack_ok s3 (oo.view l3) g1 nd'.1 (fun a ha z => z.elim (fun z => dz a (by simp [ha]) (.inl z)) fun z => nd'.2.2 a ha a z rfl)
      refine h1 v H' F4 fr s4 ((grow x).mono fun a ha => ?_) ⟨nd'.2.1, fun a ha z => dz a (by simp [ha]) (.inl z), ot.view (vw_le fun b o e n1 n2 => ⟨e, fun z => ?_, fun z => n2 (by
        rcases z with z | z
        · exact .inl (.inl z)
        · exact .inr (by simp [z]))⟩)⟩
      · rcases List.mem_append.mp ha with h | h
        · rcases sb4 a h with z | z <;> simp [z]
        · simp [h]
      · rcases sb4 b z with z | z
        · exact n2 (.inr (by simp [z]))
        · exact n2 (.inl (.inr z))
    | exc x0 outs =>
      rw [q] at h1
      replace h1 : ∀ cls d H' F', St X.K Z σ H' (putBack ees outs ρ1) F' → Ext false H F H' F' → ExR ca X.K (vw H' F' Z) H' x0 cls d → W cls d σ H' := h1
      intro cls d H' fo nd dz oo x er
      have s2 : St X.K (zp Z fo) σ H' ρ1 F1 := s1.call x dz d1 fun a ha => oo.alive a ha
      have l3 : Le (vw H' [] (zp (fun b => Z b ∨ b ∈ F1) fo)) (vw H' F1 (zp Z fo)) := vw_le fun b o e n1 n2 => ⟨e, fun z => n2 (.inl (.inr z)), fun z => n2 (by
        rcases z with z | z
        · exact .inl (.inl z)
        · exact .inr z)⟩
      obtain ⟨F4, s4, sb4⟩ := putBack_ok s2 (oo.view l3) g1 nd (fun a ha z => dz a ha (.inl z))
      refine h1 cls d H' F4 s4 ((grow x).mono fun a ha => ?_) (er.le (vw_le fun b o e n1 n2 => ⟨e, fun z => ?_, fun z => n2 (.inl (.inl z))⟩))
      · rcases sb4 a ha with z | z <;> simp [z]
      · rcases sb4 b z with z | z
        · exact n2 (.inr z)
        · exact n2 (.inl (.inr z))
theorem c_call {f np k : Nat} {fa : Addr} {fd : FuncData} {ps : List Str} {x : Str} (hm : m ≠ .cd) (hlen : ∀ ts t outs x, φ f ts = .ret t outs ∨ φ f ts = .exc x outs → ts.length = np)
    (Fk : FnOk X.prog X.w X.K X.mg X.base (L2.CX X.prog X.w) k fa fd ps (spF φ ca X.K f np)) (hr : Room k X.A) (hg : Gl X x) (hmg : X.mg x = some (.ref fa)) (hk : PySem.W.keepIn X.K (.ref fa) = true) (hb : Binds X.K fd ps []) (tk : Takes X W)
    (ha : PA X (e :: es) (xA φ ca X.K W ees)) (hdb : (x == ("__debug__" : Str)) = false) (he : starEach (e :: es) X.env = (false, eval e X.env) :: starEach es X.env) (hpl : (backTo pos (starEach es X.env)).any (·.1) = false) :
    PE X (.Call (.Name x p) (e :: es) [] pos) (xE φ ca X.K W m (.call f ees)) :=
  PE.imp (pe_callS Fk hr hg hmg hk hb (fun σ => passAt tk σ) ha hdb he hpl) fun σ H Q q => call_read hm hlen q
theorem leaves_len : ∀ {ts : List T} {ds : List D}, leaves ts = some ds → ts.length = ds.length
  | [], _, e => by cases e; rfl
  | t :: ts, ds, e => by
    cases t with
    | leaf d =>
      unfold leaves at e
      cases q : leaves ts with
      | none => rw [q] at e; cases e
      | some es =>
        rw [q] at e
        cases e
        simp [leaves_len q]
    | _ => cases e
/-! ### calls with keywords, of frozen things -/
def KwB (fd : FuncData) (ps ks : List Str) (n : Nat) (pm : List Nat) : Prop := ∀ (us ws : List Value), us.length = n → ws.length = ks.length → ∃ as, permL pm (us ++ ws) = some as ∧ bindArgs fd ⟨us, ks.zip ws⟩ = pure (ps.zip as)
def gK {α : Type} (n m : Nat) (pm : List Nat) (us ws : List α) : List α := if us.length = n ∧ ws.length = m then (permL pm (us ++ ws)).getD [] else []
theorem permL_vals : ∀ {pm : List Nat} {vs : List V} {us : List Value} {as : List V}, Vals vs us → permL pm vs = some as → ∃ bs, permL pm us = some bs ∧ Vals as bs
  | [], _, _, _, _, e => by cases e; exact ⟨[], rfl, .nil⟩
  | i :: pm, vs, us, as, r, e => by
    unfold permL at e
    split at e
    · rename_i x ys hx hy
      cases e
      obtain ⟨u, hu, ru⟩ := r.get hx
      obtain ⟨bs, hb, rb⟩ := permL_vals r hy
      exact ⟨u :: bs, by unfold permL; rw [hu, hb], .cons ru rb⟩
    · cases e
theorem permL_none : ∀ {pm : List Nat} {vs : List V} {us : List Value}, vs.length = us.length → permL pm vs = none → permL pm us = none
  | [], _, _, _, e => by cases e
  | i :: pm, vs, us, hl, e => by
    unfold permL at e ⊢
    split
    · rename_i x ys hx hy
      cases q : permL pm vs with
      | none =>
        rw [permL_none hl q] at hy
        cases hy
      | some zs =>
        have hi : i < vs.length := by rw [hl]; exact (List.getElem?_eq_some_iff.mp hx).1
        rw [List.getElem?_eq_getElem hi, q] at e
        cases e
    · rfl
theorem kbinds {fd : FuncData} {ps ks : List Str} {n : Nat} {pm : List Nat} (hb : KwB fd ps ks n pm) (hps : ps ≠ []) : KBinds X.K fd ps ks (gK n ks.length pm) (gK n ks.length pm) := by
  refine ⟨fun s us ws _ hl => ?_, fun {vs us zs ws} r rz => ?_⟩
  · unfold gK at hl ⊢
    split at hl
    · rename_i h
      obtain ⟨as, e1, e2⟩ := hb us ws h.1 h.2
      rw [if_pos h, e1]
      exact .of_eq e2
    · exact absurd (List.eq_nil_of_length_eq_zero hl.symm) hps
  · unfold gK
    have l1 := r.length
    have l2 := rz.length
    by_cases h : vs.length = n ∧ zs.length = ks.length
    · rw [if_pos h, if_pos (by rw [← l1, ← l2]; exact h)]
      have ra := r.append rz
      cases q : permL pm (vs ++ zs) with
      | none =>
        rw [permL_none (by rw [List.length_append, List.length_append, l1, l2]) q]
        exact .nil
      | some as =>
        obtain ⟨bs, h1, h2⟩ := permL_vals ra q
        rw [h1]
        exact h2
    · rw [if_neg h, if_neg (by rw [← l1, ← l2]; exact h)]
      exact .nil
theorem PK.imp {X : Cx} {kws : List Keyword} {t t' : TA} (h : PK X kws t) (k : ∀ σ H Q, t' σ H Q → t σ H Q) : PK X kws t' := ⟨fun pos pins s σ H Q I q => h.run pos pins s σ H Q I (k σ H Q q)⟩
theorem k_nil : PK X [] (xA φ ca X.K W .nil) := PK.imp pk_nil fun σ H Q q => xA_nil q
theorem xA_cons {ee : E} {σ : L2.St} {H : Hp} {Q : List V → Hp → Prop} (q : xA φ ca X.K W (.cons ee ees) σ H Q) : tCons (xE φ ca X.K W .mv ee) (xA φ ca X.K W ees) σ H Q := by
  obtain ⟨Z, ρ, F, s, q⟩ := q
  obtain ⟨Z0, ρ0, F0, s0, q0⟩ := cons_core s q
  refine ⟨Z0, ρ0, F0, s0, q0.imp fun t ρ1 h1 => fun v1 H1 F1 f1 s1 x1 a1 => ?_⟩
  obtain ⟨Z2, ρ2, F2, s2, q2⟩ := h1 v1 H1 F1 f1 s1 x1 a1
  refine ⟨Z2, ρ2, F2, s2, q2.imp fun ts ρ3 h3 => fun vs H3 F3 f3 s3 x3 a3 g3 => ?_⟩
  obtain ⟨t, ρ4, F4, f4, k4, s4, x4, a4, g4⟩ := h3 vs H3 F3 f3 s3 x3 a3
  exact k4 (v1 :: vs) H3 F4 f4 s4 x4 a4 (g4 g3)
theorem k_cons {nm : Option Str} {ee : E} {kws : List Keyword} {kpos : Pos} (ha : PE X e (xE φ ca X.K W .mv ee)) (hr : PK X kws (xA φ ca X.K W ees)) : PK X (⟨nm, e, kpos⟩ :: kws) (xA φ ca X.K W (.cons ee ees)) :=
  PK.imp (pk_cons ha hr) fun σ H Q q => xA_cons q
theorem permL_rp {G : Hp} : ∀ {pm : List Nat} {ds : List D} {vs : List V} {as : List D}, RpL X.K G ds vs → permL pm ds = some as → ∃ bs, permL pm vs = some bs ∧ RpL X.K G as bs
  | [], _, _, _, _, e => by cases e; exact ⟨[], rfl, rfl⟩
  | i :: pm, ds, vs, as, r, e => by
    unfold permL at e
    split at e
    · rename_i x ys hx hy
      cases e
      obtain ⟨u, hu, ru⟩ := r.get hx
      obtain ⟨bs, hb, rb⟩ := permL_rp r hy
      exact ⟨u :: bs, by unfold permL; rw [hu, hb], .cons ru rb⟩
    · cases e
theorem callK_read {f np n : Nat} {ews : Es} {ks : List Str} {pm : List Nat} {σ : L2.St} {H : Hp} {Q : VK} (hm : m ≠ .cd) (hlen : ∀ ts t outs x, φ f ts = .ret t outs ∨ φ f ts = .exc x outs → ts.length = np)
    (q : xE φ ca X.K W m (.callK f ees ews ks pm) σ H Q) (n1 : ∀ ts ρ ρ', evEs φ ees ρ = .ok ts ρ' → ts.length = n) (n2 : ∀ ts ρ ρ', evEs φ ews ρ = .ok ts ρ' → ts.length = ks.length) :
    tCallK (spF φ ca X.K f np) (gK n ks.length pm) (fun _ _ _ => False) (xA φ ca X.K W ees) (xA φ ca X.K W ews) σ H Q := by
  obtain ⟨Z, ρ, F, s, q⟩ := q
  unfold ev at q
  rw [fin_ne hm] at q
  cases e1 : evEs φ ees ρ with
  | bad => rw [e1] at q; exact q.elim
  | exc x ρ1 =>
    rw [e1] at q
    exact ⟨Z, ρ, F, s, by rw [e1]; exact q⟩
  | ok ts ρ1 =>
  rw [e1] at q
  replace q : SatR ca X.K W Z σ H F ((evEs φ ews ρ1).bind fun us ρ2 => match leaves ts, leaves us with
    | some ds, some es => (match permL pm (ds ++ es) with
      | some as => (match φ f (as.map .leaf) with
        | .ret t _ => .ok t ρ2
        | _ => .bad)
      | none => .bad)
    | _, _ => .bad) (fun t ρ' => Post X.K Z σ H F m (.callK f ees ews ks pm) t ρ' Q) := q
  refine ⟨Z, ρ, F, s, ?_⟩
  rw [e1]
  intro vs H1 F1 f1 s1 x1 a1 _
  cases e2 : evEs φ ews ρ1 with
  | bad => rw [e2] at q; exact q.elim
  | exc x ρ2 =>
    rw [e2] at q
    refine ⟨zp Z f1, ρ1, F1, s1, ?_⟩
    have q' : SatR ca X.K W Z σ H F (R.exc (α := List T) x ρ2) (fun _ _ => True) := q
    have := q'.rebase (k' := fun _ _ => True) x1 fun _ _ h => h
    rw [e2]
    exact this
  | ok us ρ2 =>
  rw [e2] at q
  simp only [R.bind] at q
  refine ⟨zp Z f1, ρ1, F1, s1, ?_⟩
  rw [e2]
  intro zs H2 F2 f2 s2 x2 a2 _
  split at q
  case h_2 => exact q.elim
  rename_i ds es l1 l2
  split at q
  case h_2 => exact q.elim
  rename_i as ha
  obtain ⟨r1, ef1⟩ := a1.2.2.leaves_of l1
  obtain ⟨r2, ef2⟩ := a2.2.2.leaves_of l2
  subst ef1 ef2
  rw [zp_nil, zp_nil] at s2
  rw [zp_nil] at r1 s1 r2
  rw [zp_nil] at r2
  rw [List.append_nil] at x1 x2
  have r1' : RpL X.K (vw H2 F2 Z) ds vs := by
    have x2' : Ext (pureEs ews) H1 F1 H2 (F2 ++ []) := by rw [List.append_nil]; exact x2
    have := x2'.view (Z := Z)
    rw [zp_nil] at this
    exact r1.le this
  obtain ⟨bs, hb, rb⟩ := permL_rp (r1'.append r2) ha
  have hg : gK n ks.length pm vs zs = bs := by
    unfold gK
    rw [if_pos ⟨by rw [← r1.len]; have := leaves_len l1; rw [← this]; exact n1 _ _ _ e1, by rw [← r2.len]; have := leaves_len l2; rw [← this]; exact n2 _ _ _ e2⟩, hb]
    rfl
  rw [hg]
  have xx := x1.tr x2
  refine ⟨fun b => Z b ∨ b ∈ F2, as.map .leaf, [], fun a z => z.elim (s2.zt a) (s2.alive a), List.nodup_nil, (fun _ z => by cases z), ?_, ?_, ?_⟩
  · refine OwL.of_leaves (rb.le ?_)
    rw [zp_nil]
    exact vw_le fun b o e n1 n2 => ⟨e, by simp, fun z => z.elim n2 n1⟩
  · rw [← rb.len]
    cases e3 : φ f (as.map .leaf) with
    | ret t outs => have := hlen _ t outs ⟨0, []⟩ (.inl e3); simpa using this
    | exc x outs => have := hlen _ (.leaf .none) outs x (.inr e3); simpa using this
    | bad => rw [e3] at q; exact q.elim
  · cases e3 : φ f (as.map .leaf) with
    | bad => rw [e3] at q; exact q.elim
    | exc x outs => rw [e3] at q; exact q.elim
    | ret t outs =>
      rw [e3] at q
      intro v H' fo fr nd dz oo ot x
      have nd' := List.nodup_append.mp nd
      have s3 : St X.K (zp Z []) σ H2 ρ2 F2 := by rw [zp_nil]; exact s2
      have s4 : St X.K (zp Z (fo ++ fr)) σ H' ρ2 F2 := s3.call x dz (fun _ z => by cases z) fun a ha => (List.mem_append.mp ha).elim (oo.alive a) (ot.alive a)
      have s5 : St X.K (zp Z fr) σ H' ρ2 F2 := s4.unz fun b z => z.imp id (fun z => by simp [z])
      refine q v H' F2 fr s5 ⟨fun b o e n => ?_, fun a ha => ?_, fun z => by cases z⟩ ⟨nd'.2.1, fun a ha z => dz a (by simp [ha]) (.inl z), ot.view (vw_le fun b o e n1 n2 => ⟨e, fun z => n2 (.inl (.inr z)), fun z => n2 (by
        rcases z with z | z
        · exact .inl (.inl z)
        · exact .inr (by simp [z]))⟩)⟩
      · exact x.keep b o (xx.keep b o e n) (fun z => by cases z)
      · rcases List.mem_append.mp ha with h | h
        · exact xx.sub a h
        · rcases x.sub a (by simp [h]) with w | w
          · cases w
          · cases q' : H a with
            | none => exact .inr rfl
            | some o =>
              by_cases hF : a ∈ F
              · exact .inl hF
              · rw [xx.keep a o q' hF] at w; cases w
def Es.len : Es → Nat
  | .nil => 0
  | .cons _ es => es.len + 1
theorem evEs_len : ∀ {es : Es} {ρ ρ' : Rho} {ts : List T}, evEs φ es ρ = .ok ts ρ' → ts.length = es.len
  | .nil, _, _, _, h => by cases h; rfl
  | .cons e es, ρ, ρ', ts, h => by
    have old : ((ev φ .mv e ρ).bind fun t ρ1 => (evEs φ es ρ1).bind fun ts ρ2 => .ok (t :: ts) ρ2) = .ok ts ρ' → ts.length = (Es.cons e es).len := fun h => by
      obtain ⟨t, ρ1, h1, h2⟩ := bind_ok h
      obtain ⟨us, ρ2, h3, h4⟩ := bind_ok h2
      cases h4
      simp [Es.len, evEs_len h3]
    cases e with
    | var k =>
      unfold evEs at h
      split at h
      · obtain ⟨us, ρ1, h1, h2⟩ := bind_ok h
        obtain ⟨t, ρ2, h3, h4⟩ := bind_ok h2
        cases h4
        simp [Es.len, evEs_len h1]
      · cases h
    | _ => exact old (by unfold evEs at h; exact h)
theorem pe_callK0 {CX : CXT} {k : Nat} {f : Addr} {fd : FuncData} {ps ks : List Str} {sp : Sp} {Ex : XK} {x : Str} {kws : List Keyword} {tk : TA} {g : List Value → List Value → List Value} {gV : List V → List V → List V}
    (F : FnOk X.prog X.w X.K X.mg X.base CX k f fd ps sp) (hr : Room k X.A) (hg : Gl X x) (hm : X.mg x = some (.ref f)) (hk : PySem.W.keepIn X.K (.ref f) = true) (hb : KBinds X.K fd ps ks g gV) (hx : Passes CX X Ex)
    (hkw : PK X kws tk) (hall : (backToKw pos (keywordEach kws X.env)).all (·.1.isSome) = true) (hks : (backToKw pos (keywordEach kws X.env)).filterMap (·.1) = ks)
    (hdb : (x == ("__debug__" : Str)) = false) (hpl : ((backTo pos (starEach [] X.env)).any (·.1) || (backToKw pos (keywordEach kws X.env)).any (·.1.isNone)) = false) :
    PE X (.Call (.Name x p) [] kws pos) (tCallK sp gV Ex L2.tNil tk) := by
  refine ⟨fun pins s σ H Q I h => ?_⟩
  refine wpAny_Call_Name_kw (ld_glob I hg hm ?_ hdb)
  refine PySem.W.callWith_KW0 (h₀ := X.base) I.ok.mod.kin hk hall ?_ hpl
  refine thn (hkw.run pos pins s σ H _ I h) fun ws s2 ⟨zs, H2, I2, rz, q2⟩ => ⟨I2.kIn, ?_⟩
  rw [hks]
  exact run_fnk (us := []) (vs := []) F hr hb hx I2 .nil rz q2
theorem c_callK {f np k : Nat} {fa : Addr} {fd : FuncData} {ps ks : List Str} {pm : List Nat} {x : Str} {es : List Expr} {ews : Es} {kws : List Keyword} (hm : m ≠ .cd) (hlen : ∀ ts t outs x, φ f ts = .ret t outs ∨ φ f ts = .exc x outs → ts.length = np)
    (Fk : FnOk X.prog X.w X.K X.mg X.base (L2.CX X.prog X.w) k fa fd ps (spF φ ca X.K f np)) (hr : Room k X.A) (hg : Gl X x) (hmg : X.mg x = some (.ref fa)) (hk : PySem.W.keepIn X.K (.ref fa) = true) (hb : KwB fd ps ks ees.len pm) (hps : ps ≠ []) (hkl : ews.len = ks.length)
    (ha : PA X es (xA φ ca X.K W ees)) (hkw : PK X kws (xA φ ca X.K W ews)) (hall : (backToKw pos (keywordEach kws X.env)).all (·.1.isSome) = true) (hks : (backToKw pos (keywordEach kws X.env)).filterMap (·.1) = ks)
    (hdb : (x == ("__debug__" : Str)) = false) (he : ∀ e r, es = e :: r → starEach (e :: r) X.env = (false, eval e X.env) :: starEach r X.env) (hnil : es = [] → ees = .nil)
    (hpl : ((backTo pos (starEach es X.env)).any (·.1) || (backToKw pos (keywordEach kws X.env)).any (·.1.isNone)) = false) :
    PE X (.Call (.Name x p) es kws pos) (xE φ ca X.K W m (.callK f ees ews ks pm)) := by
  have rd : ∀ σ H Q, xE φ ca X.K W m (.callK f ees ews ks pm) σ H Q → tCallK (spF φ ca X.K f np) (gK ees.len ks.length pm) (fun _ _ _ => False) (xA φ ca X.K W ees) (xA φ ca X.K W ews) σ H Q := fun σ H Q q =>
    callK_read hm hlen q (fun ts ρ ρ' h => evEs_len h) (fun ts ρ ρ' h => by rw [← hkl]; exact evEs_len h)
  cases es with
  | nil =>
    have := hnil rfl
    subst this
    refine PE.imp (pe_callK0 Fk hr hg hmg hk (kbinds hb hps) passL hkw hall hks hdb hpl) fun σ H Q q => ?_
    exact xA_nil (rd σ H Q q)
  | cons e r => exact PE.imp (pe_callK Fk hr hg hmg hk (kbinds hb hps) passL ha hkw hall hks hdb (he e r rfl) hpl) rd
end
end Pz
/-! P2s: a child is lent to a slot; what is never reached. -/
namespace Pz
open PySem PySem.Spec PyProof.Rows L2
section
variable {ca : Nat → Addr} {K : Frag} {W : WX} {Z : Addr → Prop} {io : List Nat} {σ σ' : L2.St} {H H' : Hp} {ρ ρ' ρ1 : Rho} {F F' F1 : List Addr} {D : Ends}
theorem takeA_ok {a : Nat} {c u c' : T} {w : V} {G : Hp} {fw : List Addr} (h : takeA a c = some (u, c')) (o : Ow K G H c w fw) : u = c ∧ c' = .hole a ∧ ∃ b, w = .ref b := by
  cases c with
  | lst ts => cases h; obtain ⟨p, _, _, e, _⟩ := o; exact ⟨rfl, rfl, p, e⟩
  | dct ts => cases h; obtain ⟨p, _, _, e, _⟩ := o; exact ⟨rfl, rfl, p, e⟩
  | _ => cases h
theorem set_comm2 {k j : Nat} {x y : Option T} (h : k ≠ j) : ((ρ.set k none).set j x).set k y = (ρ.set j x).set k y := by
  rw [List.set_comm _ _ h, List.set_set]
/-- a child is lent -/
theorem St.lend {k j : Nat} {t : T} {ds : List PyData} {st : List Step} (s : St K Z σ H ρ F) (e : getSlot ρ j = some t) (hs : stepsD ρ st = some ds) (hkj : k ≠ j) (hk : k < ρ.length) (he : ∀ a, (lendR k j ds a ρ).isSome = true) :
    ∃ v ys b ρ1 F', σ[j]? = some (some v) ∧ stepsV σ st ys ∧ ChainV H ys v (.ref b) ∧ lendR k j ds b ρ = some ρ1 ∧ St K Z (σ.set k (some (.ref b))) H ρ1 F' ∧ ∀ a ∈ F', a ∈ F := by
  have pick : ∀ a, ∃ c t', onPath (takeA a) ds t = some (c, t') := fun a => by
    have h := he a
    unfold lendR at h
    rw [e] at h
    simp only at h
    split at h
    · rename_i c t' q; exact ⟨c, t', q⟩
    · cases h
  obtain ⟨F0, s0, sub0⟩ := s.drop k
  have e0 : getSlot (ρ.set k none) j = some t := by
    rw [getSlot_iff] at e ⊢
    rw [List.getElem?_set_ne hkj]; exact e
  obtain ⟨v, f, F1, e1, o, s1, pm, nf, dz⟩ := s0.take e0
  -- what the object is does not hang on the address that is put
  obtain ⟨c0, t0, q0⟩ := pick 0
  obtain ⟨c, c', w, fw, fr, g1, g2, g3, g4, g5, _⟩ := Ow.focus q0 o
  obtain ⟨_, _, b, eb⟩ := takeA_ok g1 g2
  subst eb
  obtain ⟨cb, tb, qb⟩ := pick b
  obtain ⟨c1, c1', w1, fw1, fr1, h1, h2, h3, h4, h5, h6⟩ := Ow.focus qb o
  obtain ⟨u1, u2, b1, eb1⟩ := takeA_ok h1 h2
  subst u1 u2
  have ew : w1 = .ref b := h4.det g4
  subst ew
  have nfw := List.nodup_append.mp (h3.nodup_iff.mp nf)
  obtain ⟨fp', o', pp⟩ := h6 (vw H F1 (zp Z f)) H [] (Le.refl _) (fun _ _ _ q => q) ⟨rfl, rfl⟩
  rw [List.nil_append] at pp
  have hf : ∀ x, x ∈ f ↔ x ∈ fw1 ∨ x ∈ fp' := fun x => by
    rw [h3.mem_iff, List.mem_append, pp.mem_iff]
  have ez : zp Z f = zp (zp Z fw1) fp' := by
    funext x
    refine propext ⟨fun h => ?_, fun h => ?_⟩
    · rcases h with h | h
      · exact .inl (.inl h)
      · rcases (hf x).1 h with h | h
        · exact .inl (.inr h)
        · exact .inr h
    · rcases h with (h | h) | h
      · exact .inl h
      · exact .inr ((hf x).2 (.inl h))
      · exact .inr ((hf x).2 (.inr h))
  have hj : j < ρ.length := by
    rw [getSlot_iff] at e
    exact (List.getElem?_eq_some_iff.mp e).1
  have s2 : St K (zp Z fw1) σ H ((ρ.set k none).set j (some tb)) (fp' ++ F1) := by
    have hn : ((ρ.set k none).set j none)[j]? = some none := List.getElem?_set_self (by rw [List.length_set]; exact hj)
    have := (ez ▸ s1 : St K (zp (zp Z fw1) fp') σ H ((ρ.set k none).set j none) F1).put (t := tb) hn e1 (by rw [← ez]; exact o') (pp.nodup_iff.mpr nfw.2.1) (fun a ha z => by
      rcases z with z | z
      · exact dz a ((hf a).2 (.inr ha)) z
      · exact nfw.2.2 a z a (pp.mem_iff.mp ha) rfl)
    rw [List.set_set] at this
    exact this
  have hk2 : ((ρ.set k none).set j (some tb))[k]? = some none := by
    rw [List.getElem?_set_ne (fun z => hkj z.symm), List.getElem?_set_self hk]
  have hsk : k < σ.length := by rw [← s.len]; exact hk
  have view : Le (vw H F1 (zp Z f)) (vw H (fp' ++ F1) (zp Z fw1)) := vw_le fun x u q n1 n2 => ⟨q, fun z => by
    rcases List.mem_append.mp z with z | z
    · exact n2 (.inr ((hf x).2 (.inr z)))
    · exact n1 z, fun z => by
    rcases z with z | z
    · exact n2 (.inl z)
    · exact n2 (.inr ((hf x).2 (.inl z)))⟩
  have s3 := (s2.value (some (.ref b)) hk2).put hk2 (by rw [List.getElem?_set_self hsk]) (h2.view view) nfw.1 (fun a ha => dz a ((hf a).2 (.inl ha)))
  refine ⟨v, ds.map dV, b, _, _, e1, stepsV_of s hs g5, g4, ?_, s3, fun a ha => ?_⟩
  · unfold lendR
    rw [e]
    simp only [qb]
    rw [set_comm2 hkj]
  · refine sub0 a (pm.mem_iff.mpr ?_)
    rw [List.mem_append]
    rcases List.mem_append.mp ha with h | h
    · exact .inl ((hf a).2 (.inl h))
    · rcases List.mem_append.mp h with h | h
      · exact .inl ((hf a).2 (.inr h))
      · exact .inr h
/-- .. and comes back -/
theorem St.giveback {k j : Nat} {ds : List PyData} {b : Nat} (s : St K Z σ H ρ F) (hkj : k ≠ j) (hb : σ[k]? = some (some (.ref b))) (h : backR k j ds b ρ = some ρ') : ∃ F', St K Z σ H ρ' F' ∧ ∀ a ∈ F', a ∈ F := by
  unfold backR at h
  split at h
  · rename_i c t e1 e2
    split at h
    · rename_i u t' q
      cases h
      obtain ⟨v, f, F1, g1, o, s1, pm, nf, dz⟩ := s.take e1
      rw [hb] at g1
      cases g1
      have e3 : getSlot (ρ.set k none) j = some t := by
        rw [getSlot_iff] at e2 ⊢
        rw [List.getElem?_set_ne hkj]; exact e2
      obtain ⟨v2, c2, c2', w, fw, G, i1, i2, i3, i4, i5, i6, i7, i8, i9, go⟩ := s1.edit e3 q dz
      have hc : c2' = c ∧ w = .ref b := by
        cases c2 with
        | hole x =>
          unfold fillA at i2
          simp only at i2
          split at i2
          · rename_i ex
            cases i2
            exact ⟨rfl, by rw [← ex]; exact i5.1⟩
          · cases i2
        | _ => cases i2
      obtain ⟨hc1, hc2⟩ := hc
      subst hc1 hc2
      obtain ⟨F', s2, sub, _⟩ := go H f (fun _ _ q _ => q) (fun x o q => ⟨o, q⟩) (fun a ha => .inl ha) nf (fun G' l => o.view (i3.trans l))
      exact ⟨F', s2, fun a ha => pm.mem_iff.mpr (by rcases sub a ha with z | z <;> simp [z])⟩
    · cases h
  · cases h
theorem PostO.back {k j : Nat} {ds : List PyData} {b : Nat} {o : O} (hkj : k ≠ j) (hk : k ∉ io) (hb : σ'[k]? = some (some (.ref b))) (hσ : Pin io σ σ') (sub : ∀ a ∈ F1, a ∈ F) (h : PostO ca K W Z io σ H F D (backO k j ds b o)) : PostO ca K W Z (k :: j :: io) σ' H F1 D o := by
  have pins : ∀ {σ2 : L2.St}, Pin (k :: j :: io) σ' σ2 → Pin io σ σ2 ∧ σ2[k]? = some (some (.ref b)) := fun p => ⟨hσ.trans fun i hi => p i (by simp [hi]), by rw [p k (by simp)]; exact hb⟩
  have ext : ∀ {H2 : Hp} {F2 F3 g : List Addr}, (∀ a ∈ F3, a ∈ F2) → Ext false H F1 H2 (F2 ++ g) → Ext false H F H2 (F3 ++ g) := fun {H2 F2 F3 g} hs x =>
    ⟨fun c u q n => x.keep c u q fun z => n (sub c z), fun c hc => by
      have := x.sub c (by
        rcases List.mem_append.mp hc with z | z
        · simp [hs c z]
        · simp [z])
      exact this.imp (sub c) id, fun z => by cases z⟩
  unfold backO at h
  cases o with
  | next ρ2 =>
    simp only at h
    split at h
    · rename_i ρ3 e
      intro σ2 H2 F2 s2 x2 p2
      obtain ⟨p3, hb2⟩ := pins p2
      obtain ⟨F3, s3, sub3⟩ := s2.giveback hkj hb2 e
      exact h σ2 H2 F3 s3 (by have := ext (g := []) sub3 (by rw [List.append_nil]; exact x2); rw [List.append_nil] at this; exact this) p3
    · exact h.elim
  | brk ρ2 =>
    simp only at h
    split at h
    · rename_i ρ3 e
      intro σ2 H2 F2 s2 x2 p2
      obtain ⟨p3, hb2⟩ := pins p2
      obtain ⟨F3, s3, sub3⟩ := s2.giveback hkj hb2 e
      exact h σ2 H2 F3 s3 (by have := ext (g := []) sub3 (by rw [List.append_nil]; exact x2); rw [List.append_nil] at this; exact this) p3
    · exact h.elim
  | cont ρ2 =>
    simp only at h
    split at h
    · rename_i ρ3 e
      intro σ2 H2 F2 s2 x2 p2
      obtain ⟨p3, hb2⟩ := pins p2
      obtain ⟨F3, s3, sub3⟩ := s2.giveback hkj hb2 e
      exact h σ2 H2 F3 s3 (by have := ext (g := []) sub3 (by rw [List.append_nil]; exact x2); rw [List.append_nil] at this; exact this) p3
    · exact h.elim
  | ret t ρ2 =>
    simp only at h
    split at h
    · rename_i ρ3 e
      intro v σ2 H2 F2 fp s2 x2 p2 tm
      obtain ⟨p3, hb2⟩ := pins p2
      obtain ⟨F3, s3, sub3⟩ := s2.giveback hkj hb2 e
      refine h v σ2 H2 F3 fp s3 (ext sub3 x2) p3 ⟨tm.1, tm.2.1, tm.2.2.view ?_⟩
      exact vw_le fun x u q n1 n2 => ⟨q, fun z => n1 (sub3 x z), n2⟩
    · exact h.elim
  | exc y ρ2 =>
    simp only at h
    split at h
    · rename_i ρ3 e
      intro cls d σ2 H2 F2 s2 x2 p2 er
      obtain ⟨p3, hb2⟩ := pins p2
      obtain ⟨F3, s3, sub3⟩ := s2.giveback hkj hb2 e
      refine h cls d σ2 H2 F3 s3 (by have := ext (g := []) sub3 (by rw [List.append_nil]; exact x2); rw [List.append_nil] at this; exact this) p3 (er.le ?_)
      exact vw_le fun x u q n1 n2 => ⟨q, fun z => n1 (sub3 x z), n2⟩
    · exact h.elim
  | bad => exact h.elim
end
section
variable {X : Cx} {φ : Nat → List T → FR} {ca : Nat → Addr} {W : WX} {io : List Nat} {e : Expr} {s : S} {pos pos' : Pos} {rest : List Stmt}
theorem c_dead {st : List Stmt} : PSs X st (xS ca X.K W io (evS φ io .dead)) := ⟨fun pins s σ H D I q => by
  obtain ⟨Z, ρ, F, _, h⟩ := q
  exact h.elim⟩
theorem c_dct0 {m : M} (hm : m ≠ .cd) : PE X (.Dict [] [] pos) (xE φ ca X.K W m (.dct [] .nil)) := by
  refine PE.imp pe_dnewK fun σ H Q q => ?_
  obtain ⟨Z, ρ, F, s, q⟩ := q
  unfold ev at q
  rw [fin_ne hm] at q
  intro p n
  have s1 : St X.K (zp Z [p]) σ (upd H p (.dK [])) ρ F := St.own (f := []) (by rw [zp_nil]; exact s) n fun _ z => z
  have nZ : ¬ Z p := fun z => by obtain ⟨o, q⟩ := s.zt p z; rw [n] at q; cases q
  have q' : Post X.K Z σ H F m (.dct [] .nil) (.dct []) ρ Q := q
  exact q' (.ref p) _ F [p] s1 (Ext.alloc1 n) ⟨by simp, fun a ha => by simp at ha; subst ha; exact nZ, p, [], [], rfl, upd_same, rfl, by simp, ⟨rfl, rfl⟩⟩
theorem c_call0 {f np k : Nat} {fa : Addr} {fd : FuncData} {ps : List Str} {x : Str} {m : M} {p : Pos} (hm : m ≠ .cd) (hlen : ∀ ts t outs x, φ f ts = .ret t outs ∨ φ f ts = .exc x outs → ts.length = np)
    (Fk : FnOk X.prog X.w X.K X.mg X.base (L2.CX X.prog X.w) k fa fd ps (spF φ ca X.K f np)) (hr : Room k X.A) (hg : Gl X x) (hmg : X.mg x = some (.ref fa)) (hk : PySem.W.keepIn X.K (.ref fa) = true) (hb : Binds X.K fd ps []) (hdb : (x == ("__debug__" : Str)) = false) :
    PE X (.Call (.Name x p) [] [] pos) (xE φ ca X.K W m (.call0 f)) := by
  refine PE.imp (pe_call0 (E := fun _ _ _ => False) Fk hr hg hmg hk hb .nil (fun pins σ H s e s' _ h => ?_) hdb) fun σ H Q q => ?_
  · obtain ⟨_, _, _, _, _, _, _, _, _, _, _, _, h⟩ := h
    exact h.elim
  · obtain ⟨Z, ρ, F, s, q⟩ := q
    unfold ev at q
    rw [fin_ne hm] at q
    have s0 : St X.K (zp Z []) σ H ρ F := by rw [zp_nil]; exact s
    cases h0 : φ f [] with
    | ret t outs =>
      rw [h0] at q
      have hn : 0 = np := hlen [] t outs ⟨0, []⟩ (.inl h0)
      refine ⟨fun a => Z a ∨ a ∈ F, [], [], fun a z => ?_, List.nodup_nil, (fun _ z => by cases z), ⟨rfl, rfl⟩, hn, ?_⟩
      · rcases z with z | z
        · exact s.zt a z
        · exact s.alive a z
      · rw [h0]
        intro v H' fo fr nd dz oo ow x
        have hfo : fo = [] := by
          cases outs with
          | nil => exact oo.2
          | cons o os =>
            cases o with
            | none => obtain ⟨_, _, e, _⟩ := oo; cases e
            | some t => obtain ⟨_, _, _, _, e, _⟩ := oo; cases e
        subst hfo
        rw [List.nil_append] at nd dz ow x
        have s2 := St.call s0 x dz (fun _ z => by cases z) ow.alive
        refine q v H' F fr s2 ⟨fun b o q n => x.keep b o q (by simp), fun a ha => ?_, fun z => by cases z⟩ ⟨nd, fun a ha z => dz a ha (.inl z), ow.view ?_⟩
        · rcases List.mem_append.mp ha with z | z
          · exact .inl z
          · exact (x.sub a z).imp (fun z => by cases z) id
        · exact vw_le fun b o e n1 n2 => ⟨e, fun z => n2 (.inl (.inr z)), fun z => n2 (by rcases z with z | z <;> simp [zp, z])⟩
    | exc y outs => rw [h0] at q; exact q.elim
    | bad => rw [h0] at q; exact q.elim
theorem c_lendS {k j : Nat} {stp : List Step} {x : Str} (hN : X.N.Nodup) (hi : X.N[k]? = some x) (hx : Loc X.env.scope x) (he : PE X e (xP j stp)) (hs : swapsWith e (some (.Name x pos')) pos.line X.env = pure false) (hf : X.fn x = true ∨ X.env.scope.names.lookup x = some .local)
    (hr : PSs X rest (xS ca X.K W (k :: j :: io) (evS φ (k :: j :: io) s))) : PSs X (.Assign [.Name x pos'] e pos :: rest) (xS ca X.K W io (evS φ io (.lendS k j stp s))) := by
  refine PSs.imp (pss_cons (ps_set hN hi hx he hs hf) hr) fun D σ H q => ?_
  obtain ⟨Z, ρ, F, s0, q⟩ := q
  unfold evS at q
  split at q
  · rename_i ds hd
    split at q
    · rename_i hc
      obtain ⟨hk, hkj, hl⟩ := hc
      generalize hg : (fun a => match lendR k j ds a ρ with | some ρ1 => backO k j ds a (evS φ (k :: j :: io) s ρ1) | none => O.bad) = g at q
      have nb : pickO g ≠ .bad := fun z => by rw [z] at q; exact q.elim
      have at' := fun a => pickO_at nb a
      have lend : ∀ a, (lendR k j ds a ρ).isSome = true := fun a => by
        have := at' a
        rw [← hg] at this
        simp only at this
        cases hl : lendR k j ds a ρ with
        | some ρ1 => rfl
        | none => rw [hl] at this; rw [hg] at this; exact absurd this.symm nb
      have hj : ∃ t, getSlot ρ j = some t := by
        have := lend 0
        unfold lendR at this
        cases hh : getSlot ρ j with
        | some t => exact ⟨t, rfl⟩
        | none => rw [hh] at this; cases this
      obtain ⟨t, ht⟩ := hj
      obtain ⟨v, ys, b, ρ1, F', e1, e2, e3, e4, s1, sub⟩ := s0.lend ht hd hkj hl lend
      have hq := at' b
      rw [← hg] at hq
      simp only [e4] at hq
      rw [hg] at hq
      rw [← hq] at q
      refine ⟨v, ys, .ref b, e1, e2, e3, Z, ρ1, F', s1, ?_⟩
      refine PostO.back hkj hk ?_ (Pin.set hk) sub q
      rw [List.getElem?_set_self (by rw [← s0.len]; exact hl)]
    · exact q.elim
  · exact q.elim
end
end Pz
/-! P2t: list(range(n)), tuple(range(n)). -/
namespace Pz
open PySem PySem.Spec PyProof.Rows L2
section
variable {X : Cx} {φ : Nat → List T → FR} {ca : Nat → Addr} {W : WX} {m : M} {a : Expr} {ea : E} {pos : Pos}
def lrName (tup : Bool) : Str := match tup with | true => "tuple" | false => "list"
theorem rgV_ints (i : Int) : rgV 0 i = ((List.range i.toNat).map fun (j : Nat) => ((j : Nat) : Int)).map V.int := by
  unfold rgV
  rw [List.map_map, Int.sub_zero]
  refine List.map_congr_left fun j _ => ?_
  show V.int (0 + (j : Int)) = V.int (j : Int)
  rw [Int.zero_add]
theorem rangeD_ints (i : Int) : rangeD i = ((List.range i.toNat).map fun (j : Nat) => ((j : Nat) : Int)).map PyData.int := by
  unfold rangeD
  rw [List.map_map]; rfl
theorem c_lrng {tup : Bool} {p p2 q : Pos} (hc : X.calm = true) (hg : Gl X (lrName tup)) (hm' : X.mg (lrName tup) = none) (hg2 : Gl X "range") (hm2 : X.mg "range" = none)
    (ha : PE X a (xE φ ca X.K W .rd ea)) (hm : m ≠ .cd) (hst : starEach [a] X.env = (false, eval a X.env) :: starEach [] X.env) :
    PE X (.Call (.Name (lrName tup) p) [.Call (.Name "range" p2) [a] [] q] [] pos) (xE φ ca X.K W m (.lrng tup ea)) := by
  cases tup with
  | true =>
    refine PE.imp (pe_tupRg hc hg hm' (prg_1 hg2 hm2 ha hst)) fun σ H Q q => ?_
    obtain ⟨Z, ρ, F, s, q⟩ := q
    unfold ev at q
    rw [fin_ne hm] at q
    refine ⟨Z, ρ, F, s, q.bind.imp fun t ρ1 h1 => fun v1 H1 F1 f1 s1 x1 a1 => ?_⟩
    split at h1
    · rename_i i hi
      have := int_of hi
      subst this
      have hv := ret_leaf a1 s1
      obtain ⟨ef, rv⟩ := hv
      subst ef
      split at h1
      · rename_i hb
        obtain ⟨b1, b2⟩ := big_of hb.1
        have hb2 := hb.2
        rw [if_pos rfl] at h1
        refine ⟨i, rv, ⟨by omega, by omega, b1, b2, by omega⟩, fun p n => ?_⟩
        refine Post.tup (e := .lrng true ea) h1 s1 x1 (fun z => by cases z) ?_ n
        rw [rgV_ints, rangeD_ints]
        exact RpL.mapInt _
      · exact h1.elim
    · exact h1.elim
  | false =>
    refine PE.imp (pe_listRg hc hg hm' (prg_1 hg2 hm2 ha hst)) fun σ H Q q => ?_
    obtain ⟨Z, ρ, F, s, q⟩ := q
    unfold ev at q
    rw [fin_ne hm] at q
    refine ⟨Z, ρ, F, s, q.bind.imp fun t ρ1 h1 => fun v1 H1 F1 f1 s1 x1 a1 => ?_⟩
    split at h1
    · rename_i i hi
      have := int_of hi
      subst this
      obtain ⟨ef, rv⟩ := ret_leaf a1 s1
      subst ef
      split at h1
      · rename_i hb
        obtain ⟨b1, b2⟩ := big_of hb.1
        have hb2 := hb.2
        rw [if_neg (by decide)] at h1
        refine ⟨i, rv, ⟨by omega, by omega, b1, b2, by omega⟩, fun p n => ?_⟩
        refine Post.lst (e := .lrng false ea) h1 s1 x1 (fun z => by cases z) ?_ n
        rw [rgV_ints, rangeD_ints]
        exact RpL.mapInt _
      · exact h1.elim
    · exact h1.elim
end
end Pz
/-! P3a: what is seen of the text alone. -/
namespace Pz
open PySem PySem.Spec PyProof.Rows L2
/-- what is known of names ahead of a def's run -/
structure Ctx where
  N : List Str
  sc : Scope
  inFn : Bool
  fns : List (Str × Nat)
  gls : List (Str × D)
  kw : List (Nat × Nat × List Str × List Nat)
  /-- the block whose own cells may be stored -/
  cel : Scope
def noStar : Expr → Bool
  | .Starred .. => false
  | _ => true
def noComp : Expr → Bool
  | .ListComp .. | .SetComp .. | .DictComp .. => false
  | _ => true
def notCall0 : Expr → Bool
  | .Call (.Name _ _) [] [] _ => false
  | _ => true
def notSet : Expr → Bool
  | .Set .. => false
  | _ => true
def plainIx : Expr → Bool
  | .Slice .. => false
  | _ => true
def notTup : Expr → Bool
  | .Tuple .. | .List .. => false
  | _ => true
theorem star_ok {e : Expr} {es : List Expr} {env : Env} (h : noStar e = true) : starEach (e :: es) env = (false, eval e env) :: starEach es env := by
  cases e <;> first | rfl | cases h
theorem back_ok {pos : Pos} {env : Env} : ∀ {es : List Expr}, es.all noStar = true → (backTo pos (starEach es env)).any (·.1) = false
  | [], _ => rfl
  | e :: es, h => by
    rw [List.all_cons, Bool.and_eq_true] at h
    rw [star_ok h.1]
    show (false || (backTo pos (starEach es env)).any (·.1)) = false
    rw [back_ok h.2]
    rfl
theorem back_all {pos : Pos} {env : Env} : ∀ {es : List Expr}, es.all noStar = true → (backTo pos (starEach es env)).all (fun x => !x.1) = true
  | [], _ => rfl
  | e :: es, h => by
    rw [List.all_cons, Bool.and_eq_true] at h
    rw [star_ok h.1]
    show (true && (backTo pos (starEach es env)).all (fun x => !x.1)) = true
    rw [back_all h.2]
    rfl
theorem few_ok {pos : Pos} {env : Env} {es : List Expr} (h : es.all noStar = true) (hl : es.length < 30) : ((backTo pos (starEach es env)).all (fun x => !x.1) && (backToKw pos (keywordEach [] env)).all (fun x => x.1.isSome)
      && decide (es.length + ([] : List Keyword).length + (if ([] : List Keyword).isEmpty then 0 else 1) < 30)) = true := by
  rw [back_all h]
  show (true && true && decide (es.length + 0 + 0 < 30)) = true
  rw [decide_eq_true (by omega)]
  rfl
theorem base_ok {o : Expr} {attr : Str} {env : Env} {w : Sem Value} (h : notCall0 o = true) : attributeBase o attr env w = w := by
  unfold attributeBase
  split
  · cases h
  · rfl
theorem sw_ok {e : Expr} {t : Option Expr} {l : Nat} {env : Env} (h : noComp e = true) : swapsWith e t l env = pure false := by
  cases e <;> first | rfl | cases h
theorem sws_ok {e t : Expr} {l : Nat} {env : Env} (h : noComp e = true) : swapsWithSole [t] e l env = pure false := sw_ok h
theorem swst_ok {e t : Expr} {env : Env} (h : notTup t = true) : swappedStores [t] e env = pure none := by
  cases t <;> first | rfl | cases h
theorem swst_ok2 {e : Expr} {ts : List Expr} {k : Nat} {p : Pos} {env : Env} (h : notTup e = true) : swappedStores [.Tuple ts k p] e env = pure none := by
  cases e <;> first | rfl | cases h
theorem sw2_ok {env : Env} {x y : Str} {px py pt pt2 : Pos} {kt k2 : Nat} {a b : Expr} (hk : env.scope.kind = .function) (hx : env.scope.names.lookup x = some .local) (hy : env.scope.names.lookup y = some .local) (hl : (py.line == px.line) = true) (hne : (x == y) = false)
    (ha : noStar a = true) (hb : noStar b = true) (hf : [a, b].all (foldedForSure 8) = false) (hcn : [a, b].all (constantsAlone 8) = false) : swappedStores [.Tuple [.Name x px, .Name y py] kt pt] (.Tuple [a, b] k2 pt2) env = pure (some [x, y]) := by
  have hbk : env.blockKind = .function := by unfold Env.blockKind; rw [hk]; rfl
  have kx : env.kindOf x = some .local := hx
  have ky : env.kindOf y = some .local := hy
  have hyx : (y == x) = false := by
    cases q : (y == x) with
    | false => rfl
    | true =>
      rw [beq_iff_eq] at q
      rw [q, beq_self_eq_true] at hne
      cases hne
  have hd : ([x, y] : List Str).eraseDups = [x, y] := by
    simp [List.eraseDups_cons, hyx]
  unfold swappedStores
  simp only [List.length_cons, List.length_nil, hbk]
  rw [if_neg (by decide)]
  split
  · rename_i h
    exfalso
    simp only [List.any_cons, List.any_nil, Bool.or_false, Bool.or_eq_true] at h
    rcases h with h | h
    · cases a <;> first | (cases h; done) | (cases ha; done)
    · cases b <;> first | (cases h; done) | (cases hb; done)
  simp only [List.filterMap_cons, List.filterMap_nil, List.head?_cons, Option.map_some, Option.getD_some, Expr.pos, kx, ky, hl, beq_self_eq_true, Bool.and_self, if_true, Bool.true_and]
  rw [if_neg (by simp only [hd]; simp), if_neg (by rw [hf]; decide), if_neg (by rw [hcn]; decide)]
theorem sw3_ok {env : Env} {x y z : Str} {px py pz pt pt2 : Pos} {kt k2 : Nat} {a b c : Expr} (hk : env.scope.kind = .function) (hx : env.scope.names.lookup x = some .local) (hy : env.scope.names.lookup y = some .local) (hz : env.scope.names.lookup z = some .local)
    (hl : (py.line == px.line) = true) (hl2 : (pz.line == px.line) = true) (hne : [x, y, z].eraseDups = [x, y, z])
    (ha : noStar a = true) (hb : noStar b = true) (hc : noStar c = true) (hf : [a, b, c].all (foldedForSure 8) = false) (hcn : [a, b, c].all (constantsAlone 8) = false) : swappedStores [.Tuple [.Name x px, .Name y py, .Name z pz] kt pt] (.Tuple [a, b, c] k2 pt2) env = pure (some [x, y, z]) := by
  have hbk : env.blockKind = .function := by unfold Env.blockKind; rw [hk]; rfl
  have kx : env.kindOf x = some .local := hx
  have ky : env.kindOf y = some .local := hy
  have kz : env.kindOf z = some .local := hz
  unfold swappedStores
  simp only [List.length_cons, List.length_nil, hbk]
  rw [if_neg (by decide)]
  split
  · rename_i h
    exfalso
    simp only [List.any_cons, List.any_nil, Bool.or_false, Bool.or_eq_true] at h
    rcases h with h | h | h
    · cases a <;> first | (cases h; done) | (cases ha; done)
    · cases b <;> first | (cases h; done) | (cases hb; done)
    · cases c <;> first | (cases h; done) | (cases hc; done)
  simp only [List.filterMap_cons, List.filterMap_nil, List.head?_cons, Option.map_some, Option.getD_some, Expr.pos, kx, ky, kz, hl, hl2, beq_self_eq_true, Bool.and_self, if_true, Bool.true_and]
  rw [if_neg (by simp only [hne]; simp), if_neg (by rw [hf]; decide), if_neg (by rw [hcn]; decide)]
end Pz
/-! P3b: a term and a text are compared. -/
namespace Pz
open PySem PySem.Spec PyProof.Rows L2
instance : BEq CmpOp := ⟨fun a b => decide (a = b)⟩
def isVis (C : Ctx) (k : Nat) (x : Str) : Bool :=
  decide (C.N[k]? = some x) && (match C.sc.names.lookup x with | some .local | some .cell | some .free => true | _ => false) && (x == ("__debug__" : Str)) == false && (x == ("__classdict__" : Str)) == false
def isLoc (C : Ctx) (k : Nat) (x : Str) : Bool :=
  decide (C.N[k]? = some x) && (match C.sc.names.lookup x with | some .local => true | some .cell => C.inFn || (C.cel.names.lookup x == some .cell) | _ => false)
def isGlo (C : Ctx) (x : Str) : Bool :=
  (match C.sc.names.lookup x with | some .globalImplicit => true | _ => false) && (x == ("__debug__" : Str)) == false
def bltNames : List Str := ["len", "int", "str", "abs", "tuple", "list", "sum", "min", "max", "all", "any", "sorted", "isinstance", "range", "enumerate", "zip", "bool"]
def isBlt (C : Ctx) (x : Str) : Bool := isGlo C x && decide (x ∈ bltNames)
def keyE : Key → Expr → Bool
  | .inl i, .Constant (.int j) _ _ => i == j
  | .inr i, .Constant (.str j) _ _ => i == j
  | _, _ => false
def keysE : List Key → List (Option Expr) → Bool
  | [], [] => true
  | k :: ks, some e :: es => keyE k e && keysE ks es
  | _, _ => false
def stepE (C : Ctx) : Step → Expr → Bool
  | .i n, .Constant (.int j) _ _ => n == j
  | .i n, .UnaryOp .USub (.Constant (.int j) _ _) _ => n == -j
  | .s x, .Constant (.str j) _ _ => x == j
  | .v k, .Name x _ => isVis C k x
  | _, _ => false
/-- a path, the last step first -/
def pathE (C : Ctx) (k : Nat) : List Step → Expr → Bool
  | [], e => match e with
    | .Name x _ => isVis C k x
    | _ => false
  | s :: st, e => match e with
    | .Subscript a i _ => pathE C k st a && stepE C s i
    | _ => false
mutual
def dEq : D → D → Bool
  | .none, .none => true
  | .bool a, .bool b => a == b
  | .int a, .int b => a == b
  | .str a, .str b => decide (a = b)
  | .list a, .list b => dsEq a b
  | .tuple a, .tuple b => dsEq a b
  | _, _ => false
def dsEq : List D → List D → Bool
  | [], [] => true
  | a :: as, b :: bs => dEq a b && dsEq as bs
  | _, _ => false
end
mutual
theorem dEq_eq : ∀ {a b : D}, dEq a b = true → a = b
  | .none, b, h => by cases b <;> first | rfl | cases h
  | .bool a, b, h => by cases b <;> first | (rw [beq_iff_eq.mp h]) | cases h
  | .int a, b, h => by cases b <;> first | (rw [beq_iff_eq.mp h]) | cases h
  | .str a, b, h => by cases b <;> first | (rw [of_decide_eq_true h]) | cases h
  | .list a, b, h => by cases b <;> first | (rw [dsEq_eq h]) | cases h
  | .tuple a, b, h => by cases b <;> first | (rw [dsEq_eq h]) | cases h
  | .dict a, b, h => by cases b <;> cases h
theorem dsEq_eq : ∀ {a b : List D}, dsEq a b = true → a = b
  | [], [], _ => rfl
  | a :: as, b :: bs, h => by
    simp only [dsEq, Bool.and_eq_true] at h
    rw [dEq_eq h.1, dsEq_eq h.2]
  | [], _ :: _, h => by cases h
  | _ :: _, [], h => by cases h
end
mutual
def patE (C : Ctx) : Pat → Expr → Bool
  | .v k, e => match e with
    | .Name x _ => isLoc C k x
    | _ => false
  | .tup ps, e => match e with
    | .Tuple es _ _ => patsE C ps es
    | _ => false
def patsE (C : Ctx) : List Pat → List Expr → Bool
  | [], es => match es with
    | [] => true
    | _ => false
  | p :: ps, es => match es with
    | e :: es => noStar e && patE C p e && patsE C ps es
    | _ => false
end
def isTupE : Expr → Bool
  | .Tuple .. => true
  | _ => false
def blkCtx (C : Ctx) (scope : Scope) : Ctx := { C with sc := relS scope C.sc, inFn := false, cel := scope }
def ownOf (C : Ctx) (p : Pat) : List (Str × Nat) := (patVs p).map fun k => (C.N.getD k ⟨#[]⟩, k)
mutual
def chk (C : Ctx) (cd : Bool) : E → Expr → Bool
  | .non, x0 => match x0 with
    | .Constant .none _ _ => true
    | _ => false
  | .bl b, x0 => match x0 with
    | .Constant (.bool b') _ _ => b == b'
    | _ => false
  | .int i, x0 => match x0 with
    | .Constant (.int j) _ _ => i == j
    | _ => false
  | .str i, x0 => match x0 with
    | .Constant (.str j) _ _ => i == j
    | _ => false
  | .var k, x0 => match x0 with
    | .Name x _ => isVis C k x
    | _ => false
  | .glob x d, x0 => match x0 with
    | .Name y _ => x == y && isGlo C y && (match C.gls.lookup y with | some d' => dEq d' d | none => false)
    | _ => false
  | .tup es, x0 => match x0 with
    | .Tuple xs _ _ => chks C es xs
    | _ => false
  | .lst es, x0 => match x0 with
    | .List xs _ => chks C es xs
    | _ => false
  | .dct ks es, x0 => match x0 with
    | .Dict [] [] _ => ks.isEmpty && (match es with | .nil => true | _ => false)
    | .Dict kes xs _ => keysE ks kes && chks C es xs && kes.length == xs.length && !kes.isEmpty && decide (kes.length ≤ 15)
    | _ => false
  | .bin op a b, x0 => match x0 with
    | .BinOp x o y _ => decide (o = opAst op) && chk C false a x && chk C false b y
    | _ => false
  | .neg a, x0 => match x0 with
    | .UnaryOp .USub x _ => chk C false a x
    | _ => false
  | .cmp c a b, x0 => match x0 with
    | .Compare x [o] [y] _ => decide (o = cmAst c) && notSet y && chk C false a x && chk C false b y
    | _ => false
  | .chain c c' a b d, x0 => match x0 with
    | .Compare x [o, o'] [y, z] _ => decide (o = cmAst c) && decide (o' = cmAst c') && notSet z && chk C false a x && chk C false b y && chk C false d z
    | _ => false
  | .and a b, x0 => match x0 with
    | .BoolOp .And (x :: y :: r) p => chk C cd a x && (match r with | [] => chk C cd b y | _ => chk C cd b (.BoolOp .And (y :: r) p))
    | _ => false
  | .or a b, x0 => match x0 with
    | .BoolOp .Or (x :: y :: r) p => chk C cd a x && (match r with | [] => chk C cd b y | _ => chk C cd b (.BoolOp .Or (y :: r) p))
    | _ => false
  | .not a, x0 => match x0 with
    | .UnaryOp .Not x _ => chk C cd a x
    | _ => false
  | .ite c a b, x0 => match x0 with
    | .IfExp t x y _ => !cd && chk C true c t && chk C false a x && chk C false b y
    | _ => false
  | .idx a i, x0 => match x0 with
    | .Subscript x y _ => plainIx y && chk C false a x && chk C false i y
    | _ => false
  | .slice a lo hi, x0 => match x0 with
    | .Subscript x (.Slice l h none _) _ => chk C false a x && (match l with | none => isNop lo | some l => !isNop lo && chk C false lo l) && (match h with | none => isNop hi | some h => !isNop hi && chk C false hi h)
    | _ => false
  | .rev a, x0 => match x0 with
    | .Subscript x (.Slice none none (some (.UnaryOp .USub (.Constant (.int 1) _ _) _)) _) _ => chk C false a x
    | _ => false
  | .call f es, x0 => match x0 with
    | .Call (.Name x _) xs [] _ => isGlo C x && decide (C.fns.lookup x = some f) && !xs.isEmpty && chks C es xs
    | _ => false
  | .call0 f, x0 => match x0 with
    | .Call (.Name x _) [] [] _ => isGlo C x && decide (C.fns.lookup x = some f)
    | _ => false
  | .xf _ _, _ => false
  | .lrng tup a, x0 => match x0 with
    | .Call (.Name x _) [.Call (.Name y _) [z] [] _] [] _ => decide (x = lrName tup) && decide (y = "range") && isBlt C x && isBlt C y && noStar z && chk C false a z
    | _ => false
  | .f1 f a, x0 => match x0 with
    | .Call (.Name x _) [y] [] _ => decide (x = f1Name f) && isBlt C x && noStar y && chk C false a y
    | _ => false
  | .f2 f a b, x0 => match x0 with
    | .Call (.Name x _) [y, z] [] _ => decide (x = f2Name f) && isBlt C x && noStar y && noStar z && chk C false a y && chk C false b z
    | _ => false
  | .isi a t, x0 => match x0 with
    | .Call (.Name x _) [y, .Name z _] [] _ => decide (x = "isinstance") && isBlt C x && decide (z = tyName t) && isBlt C z && noStar y && chk C false a y
    | _ => false
  | .comp e p it c, x0 => match x0 with
    | .ListComp x [⟨tg, iter, ifs, 0⟩] scope _ => chkIt C (isTupE tg) it iter && notSet iter && blkC C.N C.sc scope (ownOf C p) && patE (blkCtx C scope) p tg && chk (blkCtx C scope) false e x &&
      (match ifs with | [] => isNop c | [t] => !isNop c && chk (blkCtx C scope) true c t | _ => false)
    | _ => false
  | .pop k st i, x0 => match x0 with
    | .Call (.Attribute a n ap) xs [] p => decide (n = "pop") && pathE C k st.reverse a && notCall0 a && ap.endLine == p.line && (match xs with | [] => (match i with | .nop => true | _ => false) | [x] => !isNop i && noStar x && chk C false i x | _ => false)
    | _ => false
  | .mt m a es, x0 => match x0 with
    | .Call (.Attribute x n ap) xs [] p => decide (n = mtName m) && chk C false a x && notCall0 x && ap.endLine == p.line && chks C es xs && decide (xs.length < 30)
    | _ => false
  | .frz a, x => !cd && chk C false a x
  | .nop, _ => false
  | .gidx _ _ _, _ => false
  | .callK f es ws ks pm, x0 => match x0 with
    | .Call (.Name x _) xs kws _ => isGlo C x && decide (C.fns.lookup x = some f) && decide ((f, es.len, ks, pm) ∈ C.kw) && chks C es xs && chkK C ws ks kws
    | _ => false
def chks (C : Ctx) : Es → List Expr → Bool
  | .nil, x0 => match x0 with
    | [] => true
    | _ => false
  | .cons e es, x0 => match x0 with
    | x :: xs => noStar x && chk C false e x && chks C es xs
    | _ => false
def chkK (C : Ctx) : Es → List Str → List Keyword → Bool
  | .nil, ks, kws => (match ks, kws with
    | [], [] => true
    | _, _ => false)
  | .cons e es, ks, kws => (match ks, kws with
    | k :: ks, ⟨some nm, v, _⟩ :: kws => nm == k && chk C false e v && chkK C es ks kws
    | _, _ => false)
def chkIt (C : Ctx) (tup : Bool) : It → Expr → Bool
  | .seq a, x => chk C false a x
  | .rng1 a, x0 => match x0 with
    | .Call (.Name n _) [x] [] _ => decide (n = "range") && isBlt C n && noStar x && chk C false a x
    | _ => false
  | .rng2 a b, x0 => match x0 with
    | .Call (.Name n _) [x, y] [] _ => decide (n = "range") && isBlt C n && noStar x && noStar y && chk C false a x && chk C false b y
    | _ => false
  | .rng3 a b c, x0 => match x0 with
    | .Call (.Name n _) [x, y, .UnaryOp .USub (.Constant (.int 1) _ _) _] [] _ => decide (n = "range") && decide (c = -1) && isBlt C n && noStar x && noStar y && chk C false a x && chk C false b y
    | _ => false
  | .enum a, x0 => match x0 with
    | .Call (.Name n _) [x] [] _ => tup && decide (n = "enumerate") && isBlt C n && noStar x && chk C false a x
    | _ => false
  | .zip (.cons a (.cons b .nil)), x0 => match x0 with
    | .Call (.Name n _) [x, y] [] _ => tup && decide (n = "zip") && isBlt C n && noStar x && noStar y && chk C false a x && chk C false b y
    | _ => false
  | .zip _, _ => false
end
end Pz
/-! P3c: what the check of an expression promises. -/
namespace Pz
open PySem PySem.Spec PyProof.Rows L2
/-- a def that may be called -/
def CallOk (X : Cx) (φ : Nat → List T → FR) (ca : Nat → Addr) (x : Str) (f : Nat) : Prop :=
  ∃ k fa fd ps np, FnOk X.prog X.w X.K X.mg X.base (L2.CX X.prog X.w) k fa fd ps (spF φ ca X.K f np) ∧ Room k X.A ∧ X.mg x = some (.ref fa) ∧ PySem.W.keepIn X.K (.ref fa) = true ∧ Binds X.K fd ps [] ∧
    ∀ ts t outs y, φ f ts = .ret t outs ∨ φ f ts = .exc y outs → ts.length = np
/-- .. with keywords -/
def CallKOk (X : Cx) (φ : Nat → List T → FR) (ca : Nat → Addr) (x : Str) (f n : Nat) (ks : List Str) (pm : List Nat) : Prop :=
  ∃ k fa fd ps np, FnOk X.prog X.w X.K X.mg X.base (L2.CX X.prog X.w) k fa fd ps (spF φ ca X.K f np) ∧ Room k X.A ∧ X.mg x = some (.ref fa) ∧ PySem.W.keepIn X.K (.ref fa) = true ∧ KwB fd ps ks n pm ∧ ps ≠ [] ∧
    ∀ ts t outs y, φ f ts = .ret t outs ∨ φ f ts = .exc y outs → ts.length = np
structure Good (C : Ctx) (X : Cx) (W : WX) (φ : Nat → List T → FR) (ca : Nat → Addr) : Prop where
  N : X.N = C.N
  nd : C.N.Nodup
  calm : X.calm = true
  sc : X.env.scope = C.sc
  kind : C.sc.kind = .function
  hu : X.A.units + 65 < cLine
  tk : Takes X W
  fn : C.inFn = true → ∀ x, X.fn x = true
  fnc : ∀ x, (C.cel.names.lookup x == some .cell) = true → X.fn x = true
  fns : ∀ x f, C.fns.lookup x = some f → CallOk X φ ca x f
  kws : ∀ x n ks pm f, (f, n, ks, pm) ∈ C.kw → C.fns.lookup x = some f → CallKOk X φ ca x f n ks pm
  gls : ∀ x d, C.gls.lookup x = some d → ∃ u v, X.mg x = some u ∧ RelV v u ∧ ∀ G, Rp X.K G d v
  blt : ∀ x ∈ bltNames, X.mg x = none
section
variable {C : Ctx} {X : Cx} {W : WX} {φ : Nat → List T → FR} {ca : Nat → Addr} {m : M}
theorem vis_ok (G : Good C X W φ ca) {k : Nat} {x : Str} (h : isVis C k x = true) : X.N[k]? = some x ∧ Vis X.env.scope x ∧ (x == ("__debug__" : Str)) = false ∧ (x == ("__classdict__" : Str)) = false := by
  unfold isVis at h
  simp only [Bool.and_eq_true, decide_eq_true_eq, beq_iff_eq] at h
  obtain ⟨⟨⟨h1, h2⟩, h3⟩, h4⟩ := h
  refine ⟨by rw [G.N]; exact h1, ?_, h3, h4⟩
  unfold Vis
  rw [G.sc]
  split at h2 <;> first | (rename_i q; simp [q]; done) | cases h2
theorem loc_ok (G : Good C X W φ ca) {k : Nat} {x : Str} (h : isLoc C k x = true) : X.N[k]? = some x ∧ L2.Loc X.env.scope x ∧ (X.fn x = true ∨ X.env.scope.names.lookup x = some .local) := by
  unfold isLoc at h
  simp only [Bool.and_eq_true, decide_eq_true_eq] at h
  obtain ⟨h1, h2⟩ := h
  refine ⟨by rw [G.N]; exact h1, ?_⟩
  unfold L2.Loc
  rw [G.sc]
  split at h2
  · rename_i q
    exact ⟨.inl q, .inr q⟩
  · rename_i q
    rw [Bool.or_eq_true] at h2
    exact ⟨.inr q, .inl (h2.elim (fun z => G.fn z x) (fun z => G.fnc x z))⟩
  · cases h2
theorem glo_ok (G : Good C X W φ ca) {x : Str} (h : isGlo C x = true) : Gl X x ∧ (x == ("__debug__" : Str)) = false := by
  unfold isGlo at h
  simp only [Bool.and_eq_true, beq_iff_eq] at h
  obtain ⟨h1, h2⟩ := h
  refine ⟨?_, h2⟩
  unfold Gl Env.kindOf
  rw [G.sc]
  split at h1
  · assumption
  · cases h1
theorem blt_ok (G : Good C X W φ ca) {x : Str} (h : isBlt C x = true) : Gl X x ∧ X.mg x = none := by
  unfold isBlt at h
  simp only [Bool.and_eq_true, decide_eq_true_eq] at h
  exact ⟨(glo_ok G h.1).1, G.blt x h.2⟩
theorem keyE_ok {k : Key} {e : Expr} (h : keyE k e = true) : PE X e (tC (kV k)) := by
  unfold keyE at h
  split at h
  · rw [beq_iff_eq] at h; subst h; exact pe_int
  · rw [beq_iff_eq] at h; subst h; exact pe_str
  · cases h
theorem stepE_ok (G : Good C X W φ ca) {s : Step} {e : Expr} (h : stepE C s e = true) : ∃ ti, PE X e ti ∧ (∀ σ H Q y, stepV σ s y → Q y H → ti σ H Q) ∧ PlainIx e := by
  unfold stepE at h
  split at h
  · rw [beq_iff_eq] at h
    subst h
    exact ⟨_, pe_int, fun σ H Q y h q => by cases h; exact q, fun _ _ => rfl⟩
  · rw [beq_iff_eq] at h
    subst h
    exact ⟨_, pe_un un_neg pe_int, fun σ H Q y h q => by cases h; exact ⟨_, rfl, q⟩, fun _ _ => rfl⟩
  · rw [beq_iff_eq] at h
    subst h
    exact ⟨_, pe_str, fun σ H Q y h q => by cases h; exact q, fun _ _ => rfl⟩
  · obtain ⟨h1, h2, h3, h4⟩ := vis_ok G h
    exact ⟨_, pe_var h1 h2 h3 h4, fun σ H Q y h q => ⟨y, h, q⟩, fun _ _ => rfl⟩
  · cases h
theorem pathE_ok (G : Good C X W φ ca) {k : Nat} : ∀ {st : List Step} {e : Expr}, pathE C k st e = true → PE X e (xP k st.reverse)
  | [], e, h => by
    unfold pathE at h
    split at h
    · obtain ⟨h1, h2, h3, h4⟩ := vis_ok G h
      exact p_nil h1 h2 h3 h4
    · cases h
  | s :: st, e, h => by
    unfold pathE at h
    split at h
    · rw [Bool.and_eq_true] at h
      obtain ⟨ti, h1, h2, h3⟩ := stepE_ok G h.2
      rw [List.reverse_cons]
      exact p_snoc (by have := G.hu; omega) (pathE_ok G h.1) h1 h2 h3
    · cases h
mutual
theorem patE_ok (G : Good C X W φ ca) : ∀ {p : Pat} {e : Expr}, patE C p e = true → PG X e (gP X.K p)
  | .v k, e, h => by
    unfold patE at h
    split at h
    · obtain ⟨h1, h2, h3⟩ := loc_ok G h
      exact g_v (by rw [G.N]; exact G.nd) h1 h2 h3
    · cases h
  | .tup ps, e, h => by
    unfold patE at h
    split at h
    · obtain ⟨h1, h2, h3⟩ := patsE_ok G h
      exact g_tup G.calm h1 h2 h3
    · cases h
theorem patsE_ok (G : Good C X W φ ca) : ∀ {ps : List Pat} {es : List Expr}, patsE C ps es = true → PGs X es (gPs X.K ps) ∧ (assignEach es X.env).length = ps.length ∧ (assignEach es X.env).findIdx? (·.1) = none
  | [], es, h => by
    unfold patsE at h
    split at h
    · exact ⟨g_nil, rfl, rfl⟩
    · cases h
  | p :: ps, es, h => by
    unfold patsE at h
    split at h
    · rename_i e es
      simp only [Bool.and_eq_true] at h
      obtain ⟨⟨h1, h2⟩, h3⟩ := h
      obtain ⟨g1, g2, g3⟩ := patsE_ok G h3
      have ea : assignEach (e :: es) X.env = (false, assign e X.env) :: assignEach es X.env := by
        cases e <;> first | rfl | cases h1
      refine ⟨g_cons (patE_ok G h2) g1 (by rw [ea]; rfl), by rw [ea, List.length_cons, g2, List.length_cons], ?_⟩
      rw [ea, List.findIdx?_cons]
      simp [g3]
    · cases h
end
theorem Good.blk (G : Good C X W φ ca) {scope : Scope} (hk : scope.kind = .function) (s : Shared) (H : Hp) (Ca : Addr) (cl : List (Str × Addr)) (fp : List Addr) : Good (blkCtx C scope) (X.blk s H scope (compEnvC scope cl Ca X.env) fp) W0 φ ca where
  N := G.N
  nd := G.nd
  calm := G.calm
  sc := by show relS scope X.env.scope = relS scope C.sc; rw [G.sc]
  kind := hk
  hu := G.hu
  tk := takes0
  fn := fun z => by cases z
  fnc := fun x h => h
  fns := fun x f h => G.fns x f h
  kws := fun x n ks pm f h1 h2 => G.kws x n ks pm f h1 h2
  gls := fun x d h => G.gls x d h
  blt := fun x h => G.blt x h
theorem own_map {p : Pat} : (ownOf C p).map (·.2) = patVs p := by
  unfold ownOf
  rw [List.map_map]
  conv => rhs; rw [← List.map_id (patVs p)]
  rfl
theorem blk_kind {N : List Str} {sc scope : Scope} {own : List (Str × Nat)} (h : blkC N sc scope own = true) : scope.kind = .function := (blkOk_by h).kind
theorem set_marks {op : CmpOp} {e : Expr} (h : notSet e = true) : behindInMarks op e = false := by
  cases e <;> first | rfl | cases h
theorem set_folded {e : Expr} {env : Env} (h : notSet e = true) : ∀ x, foldedSetIterable e env x = pure x := by
  cases e <;> first | (intro _; rfl) | cases h
theorem plain_ix {e : Expr} (h : plainIx e = true) : PlainIx e := by
  cases e <;> first | (exact fun _ _ => rfl) | cases h
/-- what holds of an expression that is checked -/
def SE (cd : Bool) (X : Cx) (W : WX) (φ : Nat → List T → FR) (ca : Nat → Addr) (e : E) (x : Expr) : Prop :=
  (cd = false → ∀ m, m ≠ M.cd → PE X x (xE φ ca X.K W m e)) ∧ (cd = true → PT X x (xC φ ca X.K W e) ∧ ∀ op xs p, x = .BoolOp op xs p → PW X x (xC φ ca X.K W e))
theorem SE.of {cd : Bool} {e : E} {x : Expr} (h : ∀ m, m ≠ M.cd → PE X x (xE φ ca X.K W m e)) (he : ∀ whole, isTrue x X.env whole = (do let v ← whole; standAt x.pos; holding [v] (truthy v)))
    (hev : ∀ ρ, ev φ .cd e ρ = (ev φ .rd e ρ).bind fun t ρ => match t.truth with | some b => .ok (.leaf (.bool b)) ρ | none => .bad) (hx : ∀ op xs p, x ≠ .BoolOp op xs p) : SE cd X W φ ca e x :=
  ⟨fun _ m hm => h m hm, fun _ => ⟨c_test (h .rd (by decide)) he hev, fun op xs p z => absurd z (hx op xs p)⟩⟩
end
end Pz
/-! P3d: what is checked holds: expressions. -/
namespace Pz
open PySem PySem.Spec PyProof.Rows L2
theorem chks_star {C : Ctx} : ∀ {es : Es} {xs : List Expr}, chks C es xs = true → xs.all noStar = true
  | .nil, xs, h => by
    unfold chks at h
    split at h
    · rfl
    · cases h
  | .cons e es, xs, h => by
    unfold chks at h
    split at h
    · simp only [Bool.and_eq_true] at h
      rw [List.all_cons, h.1.1, chks_star h.2]
      rfl
    · cases h
theorem keysE_ok {X : Cx} {pos : Pos} {φ : Nat → List T → FR} {ca : Nat → Addr} {W : WX} : ∀ {ks : List Key} {kes : List (Option Expr)}, keysE ks kes = true → kes.all (·.isSome) = true ∧ ks.length = kes.length
  | [], [], _ => ⟨rfl, rfl⟩
  | k :: ks, some e :: es, h => by
    simp only [keysE, Bool.and_eq_true] at h
    obtain ⟨h1, h2⟩ := keysE_ok (X := X) (pos := pos) (φ := φ) (ca := ca) (W := W) h.2
    exact ⟨by rw [List.all_cons, h1]; rfl, by rw [List.length_cons, List.length_cons, h2]⟩
  | [], _ :: _, h => by cases h
  | _ :: _, [], h => by cases h
  | _ :: _, none :: _, h => by cases h
def notMt : E → Bool
  | _ => true
section
variable {φ : Nat → List T → FR} {ca : Nat → Addr}
mutual
theorem sE : ∀ (e : E) {C : Ctx} {X : Cx} {W : WX} {cd : Bool} {x : Expr}, Good C X W φ ca → chk C cd e x = true → SE cd X W φ ca e x
  | .nop, C, X, W, cd, x, G, h => by cases h
  | .non, C, X, W, cd, x, G, h => by
    unfold chk at h
    split at h
    · exact SE.of (fun m hm => c_non hm) (fun _ => rfl) (fun _ => rfl) (fun _ _ _ z => by cases z)
    · cases h
  | .bl b, C, X, W, cd, x, G, h => by
    unfold chk at h
    split at h
    · rw [beq_iff_eq] at h
      subst h
      exact SE.of (fun m hm => c_bl hm) (fun _ => rfl) (fun _ => rfl) (fun _ _ _ z => by cases z)
    · cases h
  | .int i, C, X, W, cd, x, G, h => by
    unfold chk at h
    split at h
    · rw [beq_iff_eq] at h
      subst h
      exact SE.of (fun m hm => c_int hm) (fun _ => rfl) (fun _ => rfl) (fun _ _ _ z => by cases z)
    · cases h
  | .str i, C, X, W, cd, x, G, h => by
    unfold chk at h
    split at h
    · rw [beq_iff_eq] at h
      subst h
      exact SE.of (fun m hm => c_str hm) (fun _ => rfl) (fun _ => rfl) (fun _ _ _ z => by cases z)
    · cases h
  | .var k, C, X, W, cd, x, G, h => by
    unfold chk at h
    split at h
    · obtain ⟨h1, h2, h3, h4⟩ := vis_ok G h
      refine SE.of (fun m hm => c_var hm h1 h2 h3 h4) (fun _ => rfl) (fun ρ => ?_) (fun _ _ _ z => by cases z)
      unfold ev
      cases getSlot ρ k with
      | none => rfl
      | some t => rfl
    · cases h
  | .glob y d, C, X, W, cd, x, G, h => by
    unfold chk at h
    split at h
    · simp only [Bool.and_eq_true, beq_iff_eq] at h
      obtain ⟨⟨h1, h2⟩, h3⟩ := h
      subst h1
      obtain ⟨g1, g2⟩ := glo_ok G h2
      split at h3
      · rename_i d' q
        have := dEq_eq h3
        subst this
        obtain ⟨u, v, k1, k2, k3⟩ := G.gls _ _ q
        exact SE.of (fun m hm => c_glob hm g1 k1 k2 k3 g2) (fun _ => rfl) (fun _ => rfl) (fun _ _ _ z => by cases z)
      · cases h3
    · cases h
  | .tup es, C, X, W, cd, x, G, h => by
    unfold chk at h
    split at h
    · exact SE.of (fun m hm => c_tup (sEs es G h) hm) (fun _ => rfl) (fun _ => rfl) (fun _ _ _ z => by cases z)
    · cases h
  | .lst es, C, X, W, cd, x, G, h => by
    unfold chk at h
    split at h
    · exact SE.of (fun m hm => c_lst (sEs es G h) hm) (fun _ => rfl) (fun _ => rfl) (fun _ _ _ z => by cases z)
    · cases h
  | .dct ks es, C, X, W, cd, x, G, h => by
    unfold chk at h
    split at h
    · cases ks with
      | cons _ _ => cases h
      | nil =>
        cases es with
        | cons _ _ => cases h
        | nil => exact SE.of (fun m hm => c_dct0 hm) (fun _ => rfl) (fun _ => rfl) (fun _ _ _ z => by cases z)
    · rename_i kes xs pos hno
      simp only [Bool.and_eq_true, beq_iff_eq, decide_eq_true_eq, Bool.not_eq_true'] at h
      obtain ⟨⟨⟨⟨h1, h2⟩, h3⟩, h4⟩, h5⟩ := h
      obtain ⟨k1, k2⟩ := keysE_ok (X := X) (pos := pos) (φ := φ) (ca := ca) (W := W) h1
      refine SE.of (fun m hm => c_dct (sDs es G h1 h2 h3) k1 h3 (fun z => by rw [z] at h4; cases h4) h5 hm) (fun _ => rfl) (fun _ => rfl) (fun _ _ _ z => by cases z)
    · cases h
  | .bin op a b, C, X, W, cd, x, G, h => by
    unfold chk at h
    split at h
    · simp only [Bool.and_eq_true, decide_eq_true_eq] at h
      obtain ⟨⟨h1, h2⟩, h3⟩ := h
      subst h1
      exact SE.of (fun m hm => c_bin ((sE a G h2).1 rfl .rd (by decide)) ((sE b G h3).1 rfl .rd (by decide)) hm) (fun _ => rfl) (fun _ => rfl) (fun _ _ _ z => by cases z)
    · cases h
  | .neg a, C, X, W, cd, x, G, h => by
    unfold chk at h
    split at h
    · exact SE.of (fun m hm => c_neg ((sE a G h).1 rfl .rd (by decide)) hm) (fun _ => rfl) (fun _ => rfl) (fun _ _ _ z => by cases z)
    · cases h
  | .cmp c a b, C, X, W, cd, x, G, h => by
    unfold chk at h
    split at h
    · simp only [Bool.and_eq_true, decide_eq_true_eq] at h
      obtain ⟨⟨⟨h1, h2⟩, h3⟩, h4⟩ := h
      subst h1
      have pa := (sE a G h3).1 rfl .rd (by decide)
      have pb := (sE b G h4).1 rfl .rd (by decide)
      exact ⟨fun _ m hm => c_cmp G.hu pa pb hm (set_marks h2), fun _ => ⟨c_cmpT G.hu pa pb (set_marks h2), fun _ _ _ z => by cases z⟩⟩
    · cases h
  | .chain c c' a b d, C, X, W, cd, x, G, h => by
    unfold chk at h
    split at h
    · simp only [Bool.and_eq_true, decide_eq_true_eq] at h
      obtain ⟨⟨⟨⟨⟨h1, h1'⟩, h2⟩, h3⟩, h4⟩, h5⟩ := h
      subst h1 h1'
      have pa := (sE a G h3).1 rfl .rd (by decide)
      have pb := (sE b G h4).1 rfl .rd (by decide)
      have pd := (sE d G h5).1 rfl .rd (by decide)
      exact ⟨fun _ m hm => c_chain G.hu pa pb pd hm (set_marks h2), fun _ => ⟨c_chainT G.hu pa pb pd (set_marks h2), fun _ _ _ z => by cases z⟩⟩
    · cases h
  | .and a b, C, X, W, cd, x, G, h => by
    unfold chk at h
    split at h
    · rename_i y z r pos
      simp only [Bool.and_eq_true] at h
      obtain ⟨h1, h2⟩ := h
      have s1 := sE a G h1
      split at h2
      · have s2 := sE b G h2
        refine ⟨fun e m hm => c_and (s1.1 e .rd (by decide)) (pe_one (s2.1 e .rd (by decide))) hm, fun e => ?_⟩
        have := c_andT (pos := pos) (s1.2 e).1 (pw_and1 (s2.2 e).1)
        exact ⟨this.pt, fun op xs p z => by cases z; exact this⟩
      · have s2 := sE b G h2
        refine ⟨fun e m hm => c_and (s1.1 e .rd (by decide)) (s2.1 e .rd (by decide)) hm, fun e => ?_⟩
        have := c_andT (s1.2 e).1 ((s2.2 e).2 _ _ _ rfl)
        exact ⟨this.pt, fun op xs p z => by cases z; exact this⟩
    · cases h
  | .or a b, C, X, W, cd, x, G, h => by
    unfold chk at h
    split at h
    · rename_i y z r pos
      simp only [Bool.and_eq_true] at h
      obtain ⟨h1, h2⟩ := h
      have s1 := sE a G h1
      split at h2
      · have s2 := sE b G h2
        refine ⟨fun e m hm => c_or (s1.1 e .rd (by decide)) (pe_one (s2.1 e .rd (by decide))) hm, fun e => ?_⟩
        have := c_orT (pos := pos) (s1.2 e).1 (pw_or1 (s2.2 e).1)
        exact ⟨this.pt, fun op xs p z => by cases z; exact this⟩
      · have s2 := sE b G h2
        refine ⟨fun e m hm => c_or (s1.1 e .rd (by decide)) (s2.1 e .rd (by decide)) hm, fun e => ?_⟩
        have := c_orT (s1.2 e).1 ((s2.2 e).2 _ _ _ rfl)
        exact ⟨this.pt, fun op xs p z => by cases z; exact this⟩
    · cases h
  | .not a, C, X, W, cd, x, G, h => by
    unfold chk at h
    split at h
    · have s1 := sE a G h
      exact ⟨fun e m hm => c_not (s1.1 e .rd (by decide)) hm, fun e => ⟨c_notT (s1.2 e).1, fun _ _ _ z => by cases z⟩⟩
    · cases h
  | .ite c a b, C, X, W, cd, x, G, h => by
    unfold chk at h
    split at h
    · simp only [Bool.and_eq_true, Bool.not_eq_true'] at h
      obtain ⟨⟨⟨h0, h1⟩, h2⟩, h3⟩ := h
      exact ⟨fun _ m hm => c_ite ((sE c G h1).2 rfl).1 ((sE a G h2).1 rfl m hm) ((sE b G h3).1 rfl m hm) hm, fun e => by rw [h0] at e; cases e⟩
    · cases h
  | .idx a i, C, X, W, cd, x, G, h => by
    unfold chk at h
    split at h
    · simp only [Bool.and_eq_true] at h
      obtain ⟨⟨h1, h2⟩, h3⟩ := h
      refine SE.of (fun m hm => c_idx G.hu ((sE a G h2).1 rfl .rd (by decide)) ((sE i G h3).1 rfl .rd (by decide)) hm (plain_ix h1)) (fun _ => rfl) (fun ρ => ?_) (fun _ _ _ z => by cases z)
      unfold ev
      rfl
    · cases h
  | .slice a lo hi, C, X, W, cd, x, G, h => by
    unfold chk at h
    split at h
    · rename_i y l u p1 p2
      simp only [Bool.and_eq_true] at h
      obtain ⟨⟨h1, h2⟩, h3⟩ := h
      have pl : PO X l (xO φ ca X.K W lo) := by
        split at h2
        · cases lo <;> first | exact c_no | cases h2
        · rw [Bool.and_eq_true, Bool.not_eq_true'] at h2
          exact c_some h2.1 ((sE lo G h2.2).1 rfl .rd (by decide))
      have ph : PO X u (xO φ ca X.K W hi) := by
        split at h3
        · cases hi <;> first | exact c_no | cases h3
        · rw [Bool.and_eq_true, Bool.not_eq_true'] at h3
          exact c_some h3.1 ((sE hi G h3.2).1 rfl .rd (by decide))
      exact SE.of (fun m hm => c_slice ((sE a G h1).1 rfl .rd (by decide)) pl ph hm) (fun _ => rfl) (fun _ => rfl) (fun _ _ _ z => by cases z)
    · cases h
  | .rev a, C, X, W, cd, x, G, h => by
    unfold chk at h
    split at h
    · exact SE.of (fun m hm => c_rev ((sE a G h).1 rfl .rd (by decide)) hm) (fun _ => rfl) (fun _ => rfl) (fun _ _ _ z => by cases z)
    · cases h
  | .call f es, C, X, W, cd, x, G, h => by
    unfold chk at h
    split at h
    · rename_i y p xs pos
      simp only [Bool.and_eq_true, decide_eq_true_eq, Bool.not_eq_true'] at h
      obtain ⟨⟨⟨h1, h2⟩, h3⟩, h4⟩ := h
      obtain ⟨g1, g2⟩ := glo_ok G h1
      obtain ⟨k, fa, fd, ps, np, k1, k2, k3, k4, k5, k6⟩ := G.fns _ _ h2
      have hst := chks_star h4
      cases xs with
      | nil => cases h3
      | cons y ys =>
        rw [List.all_cons, Bool.and_eq_true] at hst
        exact SE.of (fun m hm => c_call hm k6 k1 k2 g1 k3 k4 k5 G.tk (sEs es G h4) g2 (star_ok hst.1) (back_ok hst.2)) (fun _ => rfl) (fun _ => rfl) (fun _ _ _ z => by cases z)
    · cases h
  | .call0 f, C, X, W, cd, x, G, h => by
    unfold chk at h
    split at h
    · rename_i y p pos
      simp only [Bool.and_eq_true, decide_eq_true_eq] at h
      obtain ⟨h1, h2⟩ := h
      obtain ⟨g1, g2⟩ := glo_ok G h1
      obtain ⟨k, fa, fd, ps, np, k1, k2, k3, k4, k5, k6⟩ := G.fns _ _ h2
      exact SE.of (fun m hm => c_call0 hm k6 k1 k2 g1 k3 k4 k5 g2) (fun _ => rfl) (fun _ => rfl) (fun _ _ _ z => by cases z)
    · cases h
  | .xf _ _, C, X, W, cd, x, G, h => by cases h
  | .lrng tup a, C, X, W, cd, x, G, h => by
    unfold chk at h
    split at h
    · simp only [Bool.and_eq_true, decide_eq_true_eq] at h
      obtain ⟨⟨⟨⟨⟨h1, h2⟩, h3⟩, h4⟩, h5⟩, h6⟩ := h
      subst h1 h2
      obtain ⟨g1, g2⟩ := blt_ok G h3
      obtain ⟨g3, g4⟩ := blt_ok G h4
      exact SE.of (fun m hm => c_lrng G.calm g1 g2 g3 g4 ((sE a G h6).1 rfl .rd (by decide)) hm (star_ok h5)) (fun _ => rfl) (fun _ => rfl) (fun _ _ _ z => by cases z)
    · cases h
  | .f1 f a, C, X, W, cd, x, G, h => by
    unfold chk at h
    split at h
    · simp only [Bool.and_eq_true, decide_eq_true_eq] at h
      obtain ⟨⟨⟨h1, h2⟩, h3⟩, h4⟩ := h
      subst h1
      obtain ⟨g1, g2⟩ := blt_ok G h2
      exact SE.of (fun m hm => c_f1 G.calm g1 g2 ((sE a G h4).1 rfl .rd (by decide)) hm (star_ok h3)) (fun _ => rfl) (fun _ => rfl) (fun _ _ _ z => by cases z)
    · cases h
  | .f2 f a b, C, X, W, cd, x, G, h => by
    unfold chk at h
    split at h
    · simp only [Bool.and_eq_true, decide_eq_true_eq] at h
      obtain ⟨⟨⟨⟨⟨h1, h2⟩, h3⟩, h4⟩, h5⟩, h6⟩ := h
      subst h1
      obtain ⟨g1, g2⟩ := blt_ok G h2
      exact SE.of (fun m hm => c_f2 G.calm g1 g2 ((sE a G h5).1 rfl .rd (by decide)) ((sE b G h6).1 rfl .rd (by decide)) hm (star_ok h3) (star_ok h4)) (fun _ => rfl) (fun _ => rfl) (fun _ _ _ z => by cases z)
    · cases h
  | .isi a t, C, X, W, cd, x, G, h => by
    unfold chk at h
    split at h
    · simp only [Bool.and_eq_true, decide_eq_true_eq] at h
      obtain ⟨⟨⟨⟨⟨h1, h2⟩, h3⟩, h4⟩, h5⟩, h6⟩ := h
      subst h1 h3
      obtain ⟨g1, g2⟩ := blt_ok G h2
      obtain ⟨g3, g4⟩ := blt_ok G h4
      have pa := (sE a G h6).1 rfl .rd (by decide)
      exact ⟨fun _ m hm => c_isi g1 g2 g3 g4 pa hm (star_ok h5), fun _ => ⟨c_isiT g1 g2 g3 g4 pa (star_ok h5), fun _ _ _ z => by cases z⟩⟩
    · cases h
  | .comp e p it c, C, X, W, cd, x, G, h => by
    unfold chk at h
    split at h
    · rename_i elt tg iter ifs scope pos
      simp only [Bool.and_eq_true] at h
      obtain ⟨⟨⟨⟨⟨h1, h2⟩, h3⟩, h4⟩, h5⟩, h6⟩ := h
      have hk := blk_kind h3
      have hok : BlkOk X.N X.env.scope scope (ownOf C p) := by rw [G.N, G.sc]; exact blkOk_by h3
      refine SE.of (fun m hm => c_comp own_map hm G.calm (by rw [G.N]; exact G.nd) (sIt it G h1) hok (fun s H Ca cl fp => patE_ok (G.blk hk s H Ca cl fp) h4) (fun s H Ca cl fp => ?_) (fun s H Ca cl fp => (sE e (G.blk hk s H Ca cl fp) h5).1 rfl .mv (by decide)) (set_folded h2)) (fun _ => rfl) (fun _ => rfl) (fun _ _ _ z => by cases z)
      split at h6
      · unfold tTest
        rw [if_pos h6]
        exact pts_nil
      · rw [Bool.and_eq_true, Bool.not_eq_true'] at h6
        unfold tTest
        rw [if_neg (by rw [h6.1]; decide)]
        exact pts_one ((sE c (G.blk hk s H Ca cl fp) h6.2).2 rfl).1
      · cases h6
    · cases h
  | .pop k st i, C, X, W, cd, x, G, h => by
    unfold chk at h
    split at h
    · rename_i a n ap xs pos
      simp only [Bool.and_eq_true, decide_eq_true_eq] at h
      obtain ⟨⟨⟨⟨h1, h2⟩, h3⟩, h4⟩, h5⟩ := h
      subst h1
      have pp := pathE_ok G h2
      rw [List.reverse_reverse] at pp
      split at h5
      · split at h5
        · exact SE.of (fun m hm => c_pop0 pp hm (base_ok h3) h4) (fun _ => rfl) (fun _ => rfl) (fun _ _ _ z => by cases z)
        · cases h5
      · rename_i y
        simp only [Bool.and_eq_true, Bool.not_eq_true'] at h5
        obtain ⟨⟨h6, h7⟩, h8⟩ := h5
        have hst : [y].all noStar = true := by rw [List.all_cons, h7]; rfl
        exact SE.of (fun m hm => c_pop1 pp ((sE i G h8).1 rfl .rd (by decide)) h6 hm (base_ok h3) h4 (few_ok hst (by show 1 < 30; decide)) (star_ok h7) rfl) (fun _ => rfl) (fun _ => rfl) (fun _ _ _ z => by cases z)
      · cases h5
    · cases h
  | .mt mt a es, C, X, W, cd, x, G, h => by
    unfold chk at h
    split at h
    · rename_i y n ap xs pos
      simp only [Bool.and_eq_true, decide_eq_true_eq] at h
      obtain ⟨⟨⟨⟨⟨h1, h2⟩, h3⟩, h4⟩, h5⟩, h6⟩ := h
      subst h1
      have pa := (sE a G h2).1 rfl .rd (by decide)
      have hst := chks_star h5
      have pes := sEs es (W := W) G h5
      cases xs with
      | nil =>
        have : es = .nil := by
          cases es with
          | nil => rfl
          | cons _ _ => cases h5
        subst this
        exact SE.of (fun m hm => c_mt0 G.hu pa hm (base_ok h3) h4) (fun _ => rfl) (fun _ => rfl) (fun _ _ _ z => by cases z)
      | cons z zs =>
        have hst' := hst
        rw [List.all_cons, Bool.and_eq_true] at hst'
        exact SE.of (fun m hm => c_mt G.hu pa pes hm (base_ok h3) h4 (few_ok hst h6) (star_ok hst'.1) (back_ok hst'.2)) (fun _ => rfl) (fun _ => rfl) (fun _ _ _ z => by cases z)
    · cases h
  | .frz a, C, X, W, cd, x, G, h => by
    unfold chk at h
    simp only [Bool.and_eq_true, Bool.not_eq_true'] at h
    exact ⟨fun _ m hm => c_frz ((sE a G h.2).1 rfl .mv (by decide)) hm, fun e => by rw [h.1] at e; cases e⟩
  | .gidx _ _ _, C, X, W, cd, x, G, h => by cases h
  | .callK f es ws ks pm, C, X, W, cd, x, G, h => by
    unfold chk at h
    split at h
    · rename_i y p xs kws pos
      simp only [Bool.and_eq_true, decide_eq_true_eq] at h
      obtain ⟨⟨⟨⟨h1, h2⟩, h3⟩, h4⟩, h5⟩ := h
      obtain ⟨g1, g2⟩ := glo_ok G h1
      obtain ⟨k, fa, fd, ps, np, k1, k2, k3, k4, k5, k6, k7⟩ := G.kws _ _ _ _ _ h3 h2
      have hst := chks_star h4
      obtain ⟨p1, p2, p3, p4, p5⟩ := sKs ws (pos := pos) (W := W) G h5
      refine SE.of (fun m hm => c_callK hm k7 k1 k2 g1 k3 k4 k5 k6 p5 (sEs es G h4) p1 p2 p3 g2 (fun e r q => ?_) (fun q => ?_) (by rw [back_ok hst, p4]; rfl)) (fun _ => rfl) (fun _ => rfl) (fun _ _ _ z => by cases z)
      · subst q
        rw [List.all_cons, Bool.and_eq_true] at hst
        exact star_ok hst.1
      · subst q
        cases es with
        | nil => rfl
        | cons _ _ => cases h4
    · cases h
theorem sEs : ∀ (es : Es) {C : Ctx} {X : Cx} {W : WX} {xs : List Expr}, Good C X W φ ca → chks C es xs = true → PA X xs (xA φ ca X.K W es)
  | .nil, C, X, W, xs, G, h => by
    unfold chks at h
    split at h
    · exact c_nil
    · cases h
  | .cons e es, C, X, W, xs, G, h => by
    unfold chks at h
    split at h
    · simp only [Bool.and_eq_true] at h
      exact c_cons ((sE e G h.1.2).1 rfl .mv (by decide)) (sEs es G h.2) (star_ok h.1.1)
    · cases h
theorem sKs : ∀ (es : Es) {C : Ctx} {X : Cx} {W : WX} {ks : List Str} {kws : List Keyword} {pos : Pos}, Good C X W φ ca → chkK C es ks kws = true →
    PK X kws (xA φ ca X.K W es) ∧ (backToKw pos (keywordEach kws X.env)).all (·.1.isSome) = true ∧ (backToKw pos (keywordEach kws X.env)).filterMap (·.1) = ks ∧ (backToKw pos (keywordEach kws X.env)).any (·.1.isNone) = false ∧ es.len = ks.length
  | .nil, C, X, W, ks, kws, pos, G, h => by
    unfold chkK at h
    split at h
    · exact ⟨k_nil, rfl, rfl, rfl, rfl⟩
    · cases h
  | .cons e es, C, X, W, ks, kws, pos, G, h => by
    unfold chkK at h
    split at h
    · rename_i k ks nm v kp kws
      simp only [Bool.and_eq_true, beq_iff_eq] at h
      obtain ⟨⟨h1, h2⟩, h3⟩ := h
      subst h1
      obtain ⟨p1, p2, p3, p4, p5⟩ := sKs es (pos := pos) (W := W) G h3
      refine ⟨k_cons ((sE e G h2).1 rfl .mv (by decide)) p1, ?_, ?_, ?_, by simp [Es.len, p5]⟩
      · show (true && (backToKw pos (keywordEach kws X.env)).all (·.1.isSome)) = true
        rw [p2]
        rfl
      · show nm :: (backToKw pos (keywordEach kws X.env)).filterMap (·.1) = _
        rw [p3]
      · show (false || (backToKw pos (keywordEach kws X.env)).any (·.1.isNone)) = false
        rw [p4]
        rfl
    · cases h
theorem sDs : ∀ (es : Es) {C : Ctx} {X : Cx} {W : WX} {ks : List Key} {kes : List (Option Expr)} {xs : List Expr} {pos : Pos}, Good C X W φ ca → keysE ks kes = true → chks C es xs = true → kes.length = xs.length → CPs X pos kes xs φ ca W ks es
  | .nil, C, X, W, ks, kes, xs, pos, G, hk, h, hl => by
    unfold chks at h
    split at h
    · cases kes with
      | nil =>
        cases ks with
        | nil => exact cp_nil
        | cons _ _ => cases hk
      | cons _ _ => cases hl
    · cases h
  | .cons e es, C, X, W, ks, kes, xs, pos, G, hk, h, hl => by
    unfold chks at h
    split at h
    · simp only [Bool.and_eq_true] at h
      cases kes with
      | nil => cases hl
      | cons o kes =>
        cases ks with
        | nil => cases hk
        | cons k ks =>
          cases o with
          | none => cases hk
          | some ke =>
            simp only [keysE, Bool.and_eq_true] at hk
            exact cp_cons (keyE_ok hk.1) ((sE e G h.1.2).1 rfl .mv (by decide)) (sDs es G hk.2 h.2 (by simpa using hl))
    · cases h
theorem sIt : ∀ (it : It) {C : Ctx} {X : Cx} {W : WX} {tg x : Expr}, Good C X W φ ca → chkIt C (isTupE tg) it x = true → PI X tg x (xI φ ca X.K W it)
  | .seq a, C, X, W, tg, x, G, h => i_seq ((sE a G (by unfold chkIt at h; exact h)).1 rfl .rd (by decide))
  | .rng1 a, C, X, W, tg, x, G, h => by
    unfold chkIt at h
    split at h
    · simp only [Bool.and_eq_true, decide_eq_true_eq] at h
      obtain ⟨⟨⟨h1, h2⟩, h3⟩, h4⟩ := h
      subst h1
      obtain ⟨g1, g2⟩ := blt_ok G h2
      exact i_rng1 g1 g2 ((sE a G h4).1 rfl .rd (by decide)) (star_ok h3)
    · cases h
  | .rng2 a b, C, X, W, tg, x, G, h => by
    unfold chkIt at h
    split at h
    · simp only [Bool.and_eq_true, decide_eq_true_eq] at h
      obtain ⟨⟨⟨⟨⟨h1, h2⟩, h3⟩, h4⟩, h5⟩, h6⟩ := h
      subst h1
      obtain ⟨g1, g2⟩ := blt_ok G h2
      exact i_rng2 g1 g2 ((sE a G h5).1 rfl .rd (by decide)) ((sE b G h6).1 rfl .rd (by decide)) (star_ok h3) (star_ok h4)
    · cases h
  | .rng3 a b c, C, X, W, tg, x, G, h => by
    unfold chkIt at h
    split at h
    · simp only [Bool.and_eq_true, decide_eq_true_eq] at h
      obtain ⟨⟨⟨⟨⟨⟨h1, h0⟩, h2⟩, h3⟩, h4⟩, h5⟩, h6⟩ := h
      subst h1 h0
      obtain ⟨g1, g2⟩ := blt_ok G h2
      exact i_rng3 g1 g2 ((sE a G h5).1 rfl .rd (by decide)) ((sE b G h6).1 rfl .rd (by decide)) (star_ok h3) (star_ok h4) rfl
    · cases h
  | .enum a, C, X, W, tg, x, G, h => by
    unfold chkIt at h
    split at h
    · simp only [Bool.and_eq_true, decide_eq_true_eq] at h
      obtain ⟨⟨⟨⟨h0, h1⟩, h2⟩, h3⟩, h4⟩ := h
      subst h1
      obtain ⟨g1, g2⟩ := blt_ok G h2
      cases tg <;> first | exact i_enum g1 g2 ((sE a G h4).1 rfl .rd (by decide)) (star_ok h3) | cases h0
    · cases h
  | .zip (.cons a (.cons b .nil)), C, X, W, tg, x, G, h => by
    unfold chkIt at h
    split at h
    · simp only [Bool.and_eq_true, decide_eq_true_eq] at h
      obtain ⟨⟨⟨⟨⟨⟨h0, h1⟩, h2⟩, h3⟩, h4⟩, h5⟩, h6⟩ := h
      subst h1
      obtain ⟨g1, g2⟩ := blt_ok G h2
      cases tg <;> first | exact i_zip g1 g2 ((sE a G h5).1 rfl .rd (by decide)) ((sE b G h6).1 rfl .rd (by decide)) (star_ok h3) (star_ok h4) | cases h0
    · cases h
  | .zip .nil, C, X, W, tg, x, G, h => by unfold chkIt at h; cases h
  | .zip (.cons _ .nil), C, X, W, tg, x, G, h => by unfold chkIt at h; cases h
  | .zip (.cons _ (.cons _ (.cons _ _))), C, X, W, tg, x, G, h => by unfold chkIt at h; cases h
end
end
end Pz
/-! P3e: what is checked holds: statements. -/
namespace Pz
open PySem PySem.Spec PyProof.Rows L2
def isLocal (C : Ctx) (x : Str) : Bool := match C.sc.names.lookup x with | some .local => true | _ => false
def isCell (C : Ctx) (x : Str) : Bool := match C.sc.names.lookup x with | some .cell => true | _ => false
/-- the value is no comprehension; or one whose block swaps with the target, or with a target that is a cell -/
def setE (C : Ctx) (x : Str) (px : Pos) : Expr → Bool
  | .ListComp _ _ scope p => (isLocal C x && px.line == p.line && !(scope.names.any fun (n, k) => n == x && (k == .local || k == .cell))) || isCell C x
  | e => noComp e
def chkS (C : Ctx) : S → List Stmt → Bool
  | .nil, st => match st with
    | [] => true
    | _ => false
  | .set k e s, st => match st with
    | .Assign [.Name x px] v _ :: r => isLoc C k x && setE C x px v && (match e with | .frz _ => noComp v | _ => true) && chk C false e v && chkS C s r
    | _ => false
  | .asg p e s, st => match st with
    | .Assign [.Tuple ts k pt] v _ :: r => patE C p (.Tuple ts k pt) && notTup v && noComp v && chk C false e v && chkS C s r
    | _ => false
  | .par ks es s, st => match st with
    | .Assign [.Tuple [.Name x px, .Name y py] _ _] (.Tuple [a, b] _ _) _ :: r => (match ks with
      | [i, j] => decide (C.N[i]? = some x) && decide (C.N[j]? = some y) && decide (i ≠ j) && isLocal C x && isLocal C y && py.line == px.line && !(x == y) && noStar a && noStar b && !([a, b].all (foldedForSure 8)) && !([a, b].all (constantsAlone 8)) &&
          chks C es [a, b] && chkS C s r
      | _ => false)
    | .Assign [.Tuple [.Name x px, .Name y py, .Name z pz] _ _] (.Tuple [a, b, c] _ _) _ :: r => (match ks with
      | [i, j, l] => decide (C.N[i]? = some x) && decide (C.N[j]? = some y) && decide (C.N[l]? = some z) && decide (i ≠ j) && decide (i ≠ l) && decide (j ≠ l) && isLocal C x && isLocal C y && isLocal C z && py.line == px.line && pz.line == px.line && decide ([x, y, z].eraseDups = [x, y, z]) &&
          noStar a && noStar b && noStar c && !([a, b, c].all (foldedForSure 8)) && !([a, b, c].all (constantsAlone 8)) && chks C es [a, b, c] && chkS C s r
      | _ => false)
    | _ => false
  | .store k stp i e s, st => match st with
    | .Assign [.Subscript a b _] v _ :: r => pathE C k stp.reverse a && plainIx b && chk C false i b && noComp v && chk C false e v && chkS C s r
    | _ => false
  | .aug k op e s, st => match st with
    | .AugAssign (.Name x _) o v _ :: r => isLoc C k x && decide (o = opAst op) && chk C false e v && chkS C s r
    | _ => false
  | .augS k stp i op e s, st => match st with
    | .AugAssign (.Subscript a b _) o v _ :: r => pathE C k stp.reverse a && plainIx b && decide (o = opAst op) && chk C false i b && chk C false e v && chkS C s r
    | _ => false
  | .mut k stp mu es s, st => match st with
    | .Expr (.Call (.Attribute a n ap) xs [] p) _ :: r => decide (n = muName mu) && pathE C k stp.reverse a && notCall0 a && ap.endLine == p.line && chks C es xs && decide (xs.length < 30) && chkS C s r
    | _ => false
  | .ext k stp e s, st => match st with
    | .Expr (.Call (.Attribute a n ap) [x] [] p) _ :: r => decide (n = "extend") && pathE C k stp.reverse a && notCall0 a && ap.endLine == p.line && noStar x && chk C false e x && chkS C s r
    | _ => false
  | .expr e s, st => match st with
    | .Expr v _ :: r => noComp v && chk C false e v && chkS C s r
    | _ => false
  | .ret e, st => match st with
    | .Return (some v) _ :: _ => chk C false e v
    | _ => false
  | .retN, st => match st with
    | .Return none _ :: _ => true
    | _ => false
  | .ite c a b s, st => match st with
    | .If t as bs _ :: r => chk C true c t && chkS C a as && chkS C b bs && chkS C s r
    | _ => false
  | .for p it body s, st => match st with
    | .For tg iter bs [] _ :: r => chkIt C (isTupE tg) it iter && notSet iter && patE C p tg && chkS C body bs && chkS C s r
    | _ => false
  | .while _ c body s, st => match st with
    | .While t bs [] _ :: r => chk C true c t && chkS C body bs && chkS C s r
    | _ => false
  | .brk, st => match st with
    | .Break _ :: _ => true
    | _ => false
  | .cont, st => match st with
    | .Continue _ :: _ => true
    | _ => false
  | .pass s, st => match st with
    | .Pass _ :: r => chkS C s r
    | _ => false
  | .dead, _ => true
  | .lendS k j stp s, st => match st with
    | .Assign [.Name x px] v _ :: r => isLoc C k x && noComp v && pathE C j stp.reverse v && chkS C s r
    | _ => false
theorem local_ok {C : Ctx} {x : Str} (h : isLocal C x = true) : C.sc.names.lookup x = some .local := by
  unfold isLocal at h
  split at h
  · assumption
  · cases h
theorem cell_ok {C : Ctx} {x : Str} (h : isCell C x = true) : C.sc.names.lookup x = some .cell := by
  unfold isCell at h
  split at h
  · assumption
  · cases h
theorem sw_cell {elt : Expr} {gs : List Comprehension} {scope : Scope} {pos py : Pos} {y : Str} {l : Nat} {env : Env} (hk : env.scope.kind = .function) (hy : env.scope.names.lookup y = some .cell) : swapsWith (.ListComp elt gs scope pos) (some (.Name y py)) l env = pure false := by
  have ky : env.kindOf y = some .cell := hy
  have hb : env.blockKind = .function := by unfold Env.blockKind; rw [hk]; rfl
  unfold swapsWith
  simp only [hb, ky]
  rfl
section
variable {φ : Nat → List T → FR} {ca : Nat → Addr} {C : Ctx} {X : Cx} {W : WX}
theorem sS (G : Good C X W φ ca) (hp : PassesOwn (model X.prog X.w) X.A X.env X.xe) : ∀ (s : S) {st : List Stmt} {io : List Nat}, chkS C s st = true → PSs X st (xS ca X.K W io (evS φ io s))
  | .nil, st, io, h => by
    unfold chkS at h
    split at h
    · exact c_snil
    · cases h
  | .set k e s, st, io, h => by
    unfold chkS at h
    split at h
    · rename_i x px v pos r
      simp only [Bool.and_eq_true] at h
      obtain ⟨⟨⟨⟨h1, h2⟩, h0⟩, h3⟩, h4⟩ := h
      obtain ⟨k1, k2, k3⟩ := loc_ok G h1
      have hr := sS G hp s (io := io) h4
      have nd : X.N.Nodup := by rw [G.N]; exact G.nd
      have plain : swapsWith v (some (.Name x px)) pos.line X.env = pure false → PSs X (.Assign [.Name x px] v pos :: r) (xS ca X.K W io (evS φ io (.set k e s))) := fun hs => c_set nd k1 k2 ((sE e G h3).1 rfl .mv (by decide)) hs k3 hr
      have hkd : X.env.scope.kind = .function := by rw [G.sc]; exact G.kind
      unfold setE at h2
      split at h2
      · rename_i elt gs scope p
        rw [Bool.or_eq_true] at h2
        rcases h2 with h2 | h2
        · simp only [Bool.and_eq_true, Bool.not_eq_true'] at h2
          obtain ⟨⟨h5, h6⟩, h7⟩ := h2
          have hl : X.env.scope.names.lookup x = some .local := by rw [G.sc]; exact local_ok h5
          cases e with
          | comp e' p' it c =>
            unfold chk at h3
            split at h3
            · rename_i elt tg iter ifs scope pos' heq
              cases heq
              simp only [Bool.and_eq_true] at h3
              obtain ⟨⟨⟨⟨⟨j1, j2⟩, j3⟩, j4⟩, j5⟩, j6⟩ := h3
              have hk := blk_kind j3
              have hok : BlkOk X.N X.env.scope scope (ownOf C p') := by rw [G.N, G.sc]; exact blkOk_by j3
              refine c_setcomp own_map G.calm nd k1 hl (sw_true hkd hl h6 h7) (sIt it G j1) hok (fun s H Ca cl fp => patE_ok (G.blk hk s H Ca cl fp) j4) (fun s H Ca cl fp => ?_) (fun s H Ca cl fp => (sE e' (G.blk hk s H Ca cl fp) j5).1 rfl .mv (by decide)) (set_folded j2) hr
              split at j6
              · unfold tTest
                rw [if_pos j6]
                exact pts_nil
              · rw [Bool.and_eq_true, Bool.not_eq_true'] at j6
                unfold tTest
                rw [if_neg (by rw [j6.1]; decide)]
                exact pts_one ((sE c (G.blk hk s H Ca cl fp) j6.2).2 rfl).1
              · cases j6
            · cases h3
          | frz a => cases h0
          | _ => exact absurd h3 (by unfold chk; simp)
        · exact plain (sw_cell hkd (by rw [G.sc]; exact cell_ok h2))
      · exact plain (sw_ok h2)
    · cases h
  | .asg p e s, st, io, h => by
    unfold chkS at h
    split at h
    · simp only [Bool.and_eq_true] at h
      obtain ⟨⟨⟨⟨h1, h2⟩, h3⟩, h4⟩, h5⟩ := h
      exact c_asg ((sE e G h4).1 rfl .rd (by decide)) (patE_ok G h1) (sws_ok h3) (swst_ok2 h2) rfl (sS G hp s h5)
    · cases h
  | .par ks es s, st, io, h => by
    unfold chkS at h
    split at h
    · split at h
      · rename_i i j
        simp only [Bool.and_eq_true, decide_eq_true_eq, Bool.not_eq_true'] at h
        obtain ⟨⟨⟨⟨⟨⟨⟨⟨⟨⟨⟨⟨h1, h2⟩, h3⟩, h4⟩, h5⟩, h6⟩, h7⟩, h8⟩, h9⟩, h10⟩, h11⟩, h12⟩, h13⟩ := h
        have hkd : X.env.scope.kind = .function := by rw [G.sc]; exact G.kind
        have l1 := local_ok h4
        have l2 := local_ok h5
        rw [← G.sc] at l1 l2
        exact c_par2 G.calm (by rw [G.N]; exact G.nd) (by rw [G.N]; exact h1) (by rw [G.N]; exact h2) h3 l1 l2 (sEs es G h12) (sw2_ok hkd l1 l2 h6 h7 h8 h9 h10 h11) (sS G hp s h13)
      · cases h
    · split at h
      · simp only [Bool.and_eq_true, decide_eq_true_eq, Bool.not_eq_true'] at h
        obtain ⟨⟨⟨⟨⟨⟨⟨⟨⟨⟨⟨⟨⟨⟨⟨⟨⟨⟨h1, h2⟩, h3⟩, h4⟩, h5⟩, h6⟩, h7⟩, h8⟩, h9⟩, h10⟩, h11⟩, h12⟩, h13⟩, h14⟩, h15⟩, h16⟩, h17⟩, h18⟩, h19⟩ := h
        have hkd : X.env.scope.kind = .function := by rw [G.sc]; exact G.kind
        have l1 := local_ok h7
        have l2 := local_ok h8
        have l3 := local_ok h9
        rw [← G.sc] at l1 l2 l3
        exact c_par3 G.calm (by rw [G.N]; exact G.nd) (by rw [G.N]; exact h1) (by rw [G.N]; exact h2) (by rw [G.N]; exact h3) h4 h5 h6 l1 l2 l3 (sEs es G h18) (sw3_ok hkd l1 l2 l3 h10 h11 h12 h13 h14 h15 h16 h17) (sS G hp s h19)
      · cases h
    · cases h
  | .store k stp i e s, st, io, h => by
    unfold chkS at h
    split at h
    · simp only [Bool.and_eq_true] at h
      obtain ⟨⟨⟨⟨⟨h1, h0⟩, h2⟩, h3⟩, h4⟩, h5⟩ := h
      have pp := pathE_ok G h1
      rw [List.reverse_reverse] at pp
      refine c_store (by have := G.hu; omega) pp ((sE i G h2).1 rfl .rd (by decide)) ((sE e G h4).1 rfl .mv (by decide)) ?_ (sws_ok h3) (swst_ok rfl) rfl (sS G hp s h5)
      rename_i b _ _ _ _
      cases b <;> first | (exact fun _ => rfl) | cases h0
    · cases h
  | .aug k op e s, st, io, h => by
    unfold chkS at h
    split at h
    · simp only [Bool.and_eq_true, decide_eq_true_eq] at h
      obtain ⟨⟨⟨h1, h2⟩, h3⟩, h4⟩ := h
      subst h2
      obtain ⟨k1, k2, k3⟩ := loc_ok G h1
      exact c_aug (by rw [G.N]; exact G.nd) k1 k2 ((sE e G h3).1 rfl .rd (by decide)) k3 (sS G hp s h4)
    · cases h
  | .augS k stp i op e s, st, io, h => by
    unfold chkS at h
    split at h
    · rename_i a b pos' o v pos r
      simp only [Bool.and_eq_true, decide_eq_true_eq] at h
      obtain ⟨⟨⟨⟨⟨h1, h2⟩, h3⟩, h4⟩, h5⟩, h6⟩ := h
      subst h3
      have pp := pathE_ok G h1
      rw [List.reverse_reverse] at pp
      refine c_augS (by have := G.hu; omega) pp ((sE i G h4).1 rfl .rd (by decide)) ((sE e G h5).1 rfl .rd (by decide)) ?_ (sS G hp s h6)
      cases b <;> first | (exact fun _ _ _ => rfl) | cases h2
    · cases h
  | .mut k stp mu es s, st, io, h => by
    unfold chkS at h
    split at h
    · rename_i a n ap xs p pos r
      simp only [Bool.and_eq_true, decide_eq_true_eq] at h
      obtain ⟨⟨⟨⟨⟨⟨h1, h2⟩, h3⟩, h4⟩, h5⟩, h6⟩, h7⟩ := h
      subst h1
      have pp := pathE_ok G h2
      rw [List.reverse_reverse] at pp
      have hst := chks_star h5
      have hr := sS G hp s (io := io) h7
      cases xs with
      | nil =>
        have : es = .nil := by
          cases es with
          | nil => rfl
          | cons _ _ => cases h5
        subst this
        exact c_mut0 pp (base_ok h3) h4 hr
      | cons z zs =>
        have hst' := hst
        rw [List.all_cons, Bool.and_eq_true] at hst'
        exact c_mut pp (sEs es G h5) (base_ok h3) h4 (few_ok hst h6) (star_ok hst'.1) (back_ok hst'.2) hr
    · cases h
  | .ext k stp e s, st, io, h => by
    unfold chkS at h
    split at h
    · rename_i a n ap x p pos r
      simp only [Bool.and_eq_true, decide_eq_true_eq] at h
      obtain ⟨⟨⟨⟨⟨⟨h1, h2⟩, h3⟩, h4⟩, h5⟩, h6⟩, h7⟩ := h
      subst h1
      have pp := pathE_ok G h2
      rw [List.reverse_reverse] at pp
      have hst : [x].all noStar = true := by rw [List.all_cons, h5]; rfl
      exact c_ext pp ((sE e G h6).1 rfl .rd (by decide)) (base_ok h3) h4 (few_ok hst (by show 1 < 30; decide)) (star_ok h5) rfl (sS G hp s h7)
    · cases h
  | .expr e s, st, io, h => by
    unfold chkS at h
    split at h
    · simp only [Bool.and_eq_true] at h
      exact c_expr ((sE e G h.1.2).1 rfl .rd (by decide)) (sw_ok h.1.1) (sS G hp s h.2)
    · cases h
  | .ret e, st, io, h => by
    unfold chkS at h
    split at h
    · exact c_ret ((sE e G h).1 rfl .mv (by decide))
    · cases h
  | .retN, st, io, h => by
    unfold chkS at h
    split at h
    · exact c_retN
    · cases h
  | .ite c a b s, st, io, h => by
    unfold chkS at h
    split at h
    · simp only [Bool.and_eq_true] at h
      obtain ⟨⟨⟨h1, h2⟩, h3⟩, h4⟩ := h
      exact c_if ((sE c G h1).2 rfl).1 (sS G hp a h2) (sS G hp b h3) (sS G hp s h4)
    · cases h
  | .for p it body s, st, io, h => by
    unfold chkS at h
    split at h
    · simp only [Bool.and_eq_true] at h
      obtain ⟨⟨⟨⟨h1, h2⟩, h3⟩, h4⟩, h5⟩ := h
      exact c_for hp G.calm (sIt it G h1) (patE_ok G h3) (fun io => sS G hp body h4) (set_folded h2) (sS G hp s h5)
    · cases h
  | .while n c body s, st, io, h => by
    unfold chkS at h
    split at h
    · simp only [Bool.and_eq_true] at h
      exact c_while hp ((sE c G h.1.1).2 rfl).1 (sS G hp body h.1.2) (sS G hp s h.2)
    · cases h
  | .brk, st, io, h => by
    unfold chkS at h
    split at h
    · exact c_brk
    · cases h
  | .cont, st, io, h => by
    unfold chkS at h
    split at h
    · exact c_cont
    · cases h
  | .dead, st, io, h => c_dead
  | .lendS k j stp s, st, io, h => by
    unfold chkS at h
    split at h
    · simp only [Bool.and_eq_true] at h
      obtain ⟨⟨⟨h1, h2⟩, h3⟩, h4⟩ := h
      obtain ⟨k1, k2, k3⟩ := loc_ok G h1
      have nd : X.N.Nodup := by rw [G.N]; exact G.nd
      have hpth := pathE_ok G h3
      rw [List.reverse_reverse] at hpth
      exact c_lendS nd k1 k2 hpth (sw_ok h2) k3 (sS G hp s h4)
    · cases h
  | .pass s, st, io, h => by
    unfold chkS at h
    split at h
    · exact c_pass (sS G hp s h)
    · cases h
end
end Pz
/-! P3f: a table of defs keeps its promises. -/
namespace Pz
open PySem PySem.Spec PyProof.Rows L2
structure DefI where
  x : Str
  qual : Str
  st : Stmt
  N : List Str
  np : Nat
  kw : List (Nat × List Str × List Nat)
  body : S
abbrev Tbl := List DefI
def Tbl.fn (t : Tbl) : Nat → Option Fn := fun i => (t[i]?).map fun d => ⟨d.np, d.N.length, d.body⟩
def scopeC (N P : List Str) (sc : Scope) : Bool :=
  (match sc.kind with | .function => true | _ => false) && !sc.isCoroutine && !sc.isGenerator && decide N.Nodup && decide (N.take P.length = P) &&
    (P.all fun x => match sc.names.lookup x with | some .local => true | some .cell => true | _ => false) && (sc.names.all fun y => match y.2 with | .free => false | _ => true)
theorem scopeC_ok {N P : List Str} {sc : Scope} (h : scopeC N P sc = true) : FnScope N P sc := by
  unfold scopeC at h
  simp only [Bool.and_eq_true, decide_eq_true_eq, Bool.not_eq_true', List.all_eq_true] at h
  obtain ⟨⟨⟨⟨⟨⟨h1, h2⟩, h3⟩, h4⟩, h5⟩, h6⟩, h7⟩ := h
  refine ⟨?_, h2, h3, h4, h5, fun x hx => ?_, fun y hy e => ?_⟩
  · split at h1
    · assumption
    · cases h1
  · have := h6 x hx
    split at this
    · rename_i q; exact .inl q
    · rename_i q; exact .inr q
    · cases this
  · have := h7 y hy
    rw [e] at this
    cases this
abbrev KWs := List (Nat × Nat × List Str × List Nat)
def kwOf (t : Tbl) : KWs := (t.zipIdx).flatMap fun (d, i) => d.kw.map fun (n, ks, pm) => (i, n, ks, pm)
theorem mem_kwOf {t : Tbl} {f n : Nat} {ks : List Str} {pm : List Nat} (h : (f, n, ks, pm) ∈ kwOf t) : ∃ d, t[f]? = some d ∧ (n, ks, pm) ∈ d.kw := by
  unfold kwOf at h
  obtain ⟨⟨d, i⟩, h1, h2⟩ := List.mem_flatMap.mp h
  obtain ⟨⟨n', ks', pm'⟩, h3, h4⟩ := List.mem_map.mp h2
  cases h4
  exact ⟨d, by have := List.mem_zipIdx_iff_getElem?.mp h1; simpa using this, h3⟩
def fnOf' (t : Tbl) : List (Str × Nat) := (t.zipIdx).map fun (d, i) => (d.x, i)
theorem mem_fnOf {t : Tbl} {x : Str} {f : Nat} (h : (fnOf' t).lookup x = some f) : ∃ d, t[f]? = some d ∧ d.x = x := by
  have hm := PySem.mem_of_lookup h
  unfold fnOf' at hm
  obtain ⟨⟨d, i⟩, h1, h2⟩ := List.mem_map.mp hm
  cases h2
  exact ⟨d, by have := List.mem_zipIdx_iff_getElem?.mp h1; simpa using this, rfl⟩
def ctxOf (t : Tbl) (GL : List (Str × D)) (d : DefI) : Ctx := ⟨d.N, defScope d.st, true, fnOf' t, GL, kwOf t, defScope d.st⟩
def chkD (t : Tbl) (GL : List (Str × D)) (d : DefI) : Bool := chkS (ctxOf t GL d) d.body (defBody d.st) && scopeC d.N (d.N.take d.np) (defScope d.st) && decide (d.np ≤ d.N.length) && (decide (1 ≤ d.np) || d.kw.isEmpty)
/-- what stands behind the top -/
structure DefFact (K : Frag) (mg : Str → Option Value) (d : DefI) (fa : Addr) (fd : FuncData) : Prop where
  f : Fun K d.x d.qual d.st fa fd
  mg : mg d.x = some (.ref fa)
  b : ∀ us : List Value, us.length = d.np → bindArgs fd ⟨us, []⟩ = pure ((d.N.take d.np).zip us)
  kb : ∀ n ks pm, (n, ks, pm) ∈ d.kw → KwB fd (d.N.take d.np) ks n pm
structure Facts (K : Frag) (mg : Str → Option Value) (t : Tbl) (GL : List (Str × D)) : Prop where
  defs : ∀ (i : Nat) (d : DefI), t[i]? = some d → ∃ fa fd, DefFact K mg d fa fd
  gls : ∀ x d, GL.lookup x = some d → ∃ u v, mg x = some u ∧ RelV v u ∧ ∀ G, Rp K G d v
  blt : ∀ x ∈ bltNames, mg x = none
  chk : ∀ (i : Nat) (d : DefI), t[i]? = some d → chkD t GL d = true
theorem run_len {tb : Nat → Option Fn} {n f np : Nat} {ts : List T} (h : ∀ d, tb f = some d → d.np = np) : ∀ {t : T} {outs : List (Option T)} {y : Exc}, run tb n f ts = .ret t outs ∨ run tb n f ts = .exc y outs → ts.length = np := by
  intro t outs y q
  cases n with
  | zero => rcases q with q | q <;> cases q
  | succ n =>
    unfold run at q
    cases e : tb f with
    | none => rw [e] at q; rcases q with q | q <;> cases q
    | some d =>
      rw [e] at q
      simp only at q
      by_cases hl : ts.length = d.np
      · rw [hl]; exact h d e
      · rw [if_neg hl] at q
        rcases q with q | q <;> cases q
/-! ### the slots at entry, and the outs -/
section
variable {K : Frag} {G H : Hp}
theorem Sl.nones : ∀ (n : Nat), Sl K G H (List.replicate n none) (List.replicate n none) []
  | 0 => ⟨rfl, rfl⟩
  | n + 1 => ⟨none, List.replicate n none, [], [], rfl, rfl, rfl, Sl.nones n⟩
theorem Sl.args : ∀ {ts : List T} {vs : List V} {fp : List Addr} {ρ : Rho} {σ : List (Option V)}, OwL K G H ts vs fp → Sl K G H ρ σ [] → Sl K G H (ts.map some ++ ρ) (vs.map some ++ σ) fp
  | [], vs, fp, ρ, σ, h, s => by
    obtain ⟨e1, e2⟩ := h
    subst e1 e2
    exact s
  | t :: ts, vs, fp, ρ, σ, h, s => by
    obtain ⟨v, r, f1, f2, e1, e2, o, h⟩ := h
    subst e1 e2
    exact ⟨some v, r.map some ++ σ, f1, f2, rfl, rfl, ⟨v, rfl, o⟩, Sl.args h s⟩
def outsP : List T → Rho → List (Option T)
  | t :: ts, o :: ρ => (if t.free = true then none else o) :: outsP ts ρ
  | t :: ts, [] => none :: outsP ts []
  | [], _ => []
theorem outs_eq : ∀ {ts : List T} {n : Nat} {ρ : Rho}, outsOf ts n ρ = outsP ts (ρ.drop n)
  | [], _, _ => by unfold outsOf outsP; rfl
  | t :: ts, n, ρ => by
    unfold outsOf
    rw [outs_eq]
    by_cases h : n < ρ.length
    · rw [List.drop_eq_getElem_cons h]
      show _ = (if t.free = true then none else ρ[n]) :: outsP ts (ρ.drop (n + 1))
      congr 1
      unfold getSlot
      rw [List.getElem?_eq_getElem h]
      cases ρ[n] <;> rfl
    · rw [List.drop_eq_nil_of_le (by omega), List.drop_eq_nil_of_le (by omega)]
      have : getSlot ρ n = none := by
        unfold getSlot
        rw [List.getElem?_eq_none (by omega)]
      rw [this]
      show _ = none :: outsP ts []
      simp
theorem outs_ok : ∀ {ts : List T} {vs : List V} {ρ : Rho} {σ : List (Option V)} {F : List Addr}, Sl K G H ρ σ F → ts.length = vs.length → (∀ (i : Nat) (t : T) (v : V), ts[i]? = some t → t.free = false → vs[i]? = some v → σ[i]? = some (some v)) →
    ∃ fo, OwO K G H (outsP ts ρ) vs fo ∧ fo.Sublist F
  | [], vs, ρ, σ, F, s, hl, hp => by
    have : vs = [] := List.eq_nil_of_length_eq_zero (by simpa using hl.symm)
    subst this
    refine ⟨[], ?_, List.nil_sublist _⟩
    unfold outsP
    exact ⟨rfl, rfl⟩
  | t :: ts, [], ρ, σ, F, s, hl, hp => by cases hl
  | t :: ts, v :: vs, [], σ, F, s, hl, hp => by
    obtain ⟨e1, e2⟩ := s
    subst e1 e2
    obtain ⟨fo, h1, h2⟩ := outs_ok (ts := ts) (vs := vs) (ρ := []) (σ := []) (F := []) ⟨rfl, rfl⟩ (by simpa using hl) (fun i t v a b c => by
      have := hp (i + 1) t v (by simpa using a) b (by simpa using c)
      simp at this)
    exact ⟨fo, ⟨v, vs, rfl, h1⟩, h2⟩
  | t :: ts, v :: vs, o :: ρ, σ, F, s, hl, hp => by
    obtain ⟨s0, σ', f1, f2, e1, e2, h1, h2⟩ := s
    subst e1 e2
    obtain ⟨fo, k1, k2⟩ := outs_ok h2 (ts := ts) (vs := vs) (by simpa using hl) (fun i t v a b c => by
      have := hp (i + 1) t v (by simpa using a) b (by simpa using c)
      simpa using this)
    unfold outsP
    by_cases hf : t.free = true
    · rw [if_pos hf]
      exact ⟨fo, ⟨v, vs, rfl, k1⟩, k2.trans (List.sublist_append_right _ _)⟩
    · rw [if_neg hf]
      cases o with
      | none => exact ⟨fo, ⟨v, vs, rfl, k1⟩, k2.trans (List.sublist_append_right _ _)⟩
      | some u =>
        obtain ⟨w, ew, ow⟩ := h1
        have := hp 0 t v rfl (by simpa using hf) rfl
        simp at this
        rw [ew] at this
        cases this
        exact ⟨f1 ++ fo, ⟨v, vs, f1, fo, rfl, rfl, ow, k1⟩, List.Sublist.append (List.Sublist.refl _) k2⟩
theorem io_mem : ∀ {ts : List T} {n i : Nat} {t : T}, ts[i]? = some t → t.free = false → n + i ∈ ioOf n ts
  | [], _, _, _, e, _ => by simp at e
  | u :: ts, n, 0, t, e, hf => by
    simp at e
    subst e
    unfold ioOf
    rw [if_neg (by rw [hf]; decide)]
    simp
  | u :: ts, n, i + 1, t, e, hf => by
    have := io_mem (n := n + 1) (i := i) (t := t) (by simpa using e) hf
    unfold ioOf
    have e2 : n + (i + 1) = n + 1 + i := by omega
    rw [e2]
    split
    · exact this
    · exact List.mem_cons_of_mem _ this
end
section
variable {P : Program} {w : World} {K : Frag} {mg : Str → Option Value} {base : Heap} {ca : Nat → Addr} {t : Tbl} {GL : List (Str × D)}
theorem table (F : Facts K mg t GL) : ∀ (n i : Nat) (d : DefI) (fa : Addr) (fd : FuncData), t[i]? = some d → DefFact K mg d fa fd →
    FnOk P w K mg base (L2.CX P w) n fa fd (d.N.take d.np) (spF (run t.fn n) ca K i d.np)
  | 0, i, d, fa, fd, hi, D => by
    have hc := F.chk i d hi
    unfold chkD at hc
    simp only [Bool.and_eq_true, decide_eq_true_eq] at hc
    refine ⟨fun vs H Q E h => ?_, fun A outer s H args us vs Q E _ _ _ _ h => ?_⟩
    · obtain ⟨Z, ts, fp, _, _, _, _, hl, _⟩ := h
      rw [hl, List.length_take]
      omega
    · obtain ⟨Z, ts, fp, _, _, _, _, hl, h⟩ := h
      exact h.elim
  | n + 1, i, d, fa, fd, hi, D => by
    have hc := F.chk i d hi
    unfold chkD at hc
    simp only [Bool.and_eq_true, decide_eq_true_eq] at hc
    obtain ⟨⟨⟨hc1, hc2⟩, hc3⟩, hc4⟩ := hc
    have hS := scopeC_ok hc2
    refine D.f.okX hS (fun vs H Q E h => ?_) fun cdv A outer s H vs Q E hr h => ?_
    · obtain ⟨Z, ts, fp, _, _, _, _, hl, _⟩ := h
      rw [hl, List.length_take]
      omega
    · obtain ⟨Z, ts, fp, zt, nf, dz, ow, hl, h⟩ := h
      have G : Good (ctxOf t GL d) (cxOf (L2.CX P w) P w K mg base d.N d.qual (defScope d.st) fa cdv A outer s H E) (fun cls d _ H => E cls d H) (run t.fn n) ca := by
        refine ⟨rfl, hS.nd, rfl, rfl, hS.kind, ?_, takes_of rfl rfl rfl rfl, fun _ _ => rfl, fun _ _ => rfl, fun x f hx => ?_, fun x n' ks pm f hm hx => ?_, F.gls, F.blt⟩
        · have := hr.un
          show (A.deeper _).units + 65 < cLine
          omega
        · obtain ⟨d', e1, e2⟩ := mem_fnOf hx
          obtain ⟨fa', fd', D'⟩ := F.defs f d' e1
          subst e2
          have len' : ∀ ts t' outs y, run t.fn n f ts = .ret t' outs ∨ run t.fn n f ts = .exc y outs → ts.length = d'.np := fun ts t outs y q => run_len (fun fn e => by
            unfold Tbl.fn at e
            rw [e1] at e
            cases e
            rfl) q
          have hc' := F.chk f d' e1
          unfold chkD at hc'
          simp only [Bool.and_eq_true, decide_eq_true_eq] at hc'
          exact ⟨n, fa', fd', _, d'.np, table F n f d' fa' fd' e1 D', hr, D'.mg, D'.f.kp, .all fun us hu => D'.b us (by rw [hu, List.length_take]; omega), len'⟩
        · obtain ⟨d', e1, e2⟩ := mem_fnOf hx
          obtain ⟨fa', fd', D'⟩ := F.defs f d' e1
          subst e2
          have len' : ∀ ts t' outs y, run t.fn n f ts = .ret t' outs ∨ run t.fn n f ts = .exc y outs → ts.length = d'.np := fun ts t outs y q => run_len (fun fn e => by
            unfold Tbl.fn at e
            rw [e1] at e
            cases e
            rfl) q
          have hc' := F.chk f d' e1
          unfold chkD at hc'
          simp only [Bool.and_eq_true, decide_eq_true_eq] at hc'
          refine ⟨n, fa', fd', _, d'.np, table F n f d' fa' fd' e1 D', hr, D'.mg, D'.f.kp, D'.kb _ _ _ (by obtain ⟨d'', q1, q2⟩ := mem_kwOf hm; rw [e1] at q1; cases q1; exact q2), fun z => ?_, len'⟩
          have := congrArg List.length z
          rw [List.length_take, List.length_nil] at this
          have hkw : d'.kw ≠ [] := by
            obtain ⟨d'', q1, q2⟩ := mem_kwOf hm
            rw [e1] at q1
            cases q1
            exact fun z => by rw [z] at q2; cases q2
          have h1 := hc'.2
          rw [Bool.or_eq_true, decide_eq_true_eq] at h1
          rcases h1 with h1 | h1
          · omega
          · exact absurd (List.isEmpty_iff.mp h1) hkw
      have hp : PassesOwn (model P w) (cxOf (L2.CX P w) P w K mg base d.N d.qual (defScope d.st) fa cdv A outer s H E).A (cxOf (L2.CX P w) P w K mg base d.N d.qual (defScope d.st) fa cdv A outer s H E).env (cxOf (L2.CX P w) P w K mg base d.N d.qual (defScope d.st) fa cdv A outer s H E).xe :=
        passes_of (X := cxOf (L2.CX P w) P w K mg base d.N d.qual (defScope d.st) fa cdv A outer s H E) (K := fun e s'' => L2.CX P w outer H s E e s'') rfl
      refine ⟨_, sS G hp d.body (io := ioOf 0 ts) hc1, ?_⟩
      have hlen : ts.length = vs.length := ow.len
      have es : L2.start d.N vs = vs.map some ++ List.replicate (d.N.length - d.np) none := by
        unfold L2.start
        rw [hl]
      have hrun : run t.fn (n + 1) i ts = frOf ts (evS (run t.fn n) (ioOf 0 ts) d.body (ts.map some ++ List.replicate (d.N.length - d.np) none)) := by
        show (match t.fn i with | some d => if ts.length = d.np then frOf ts (evS (run t.fn n) (ioOf 0 ts) d.body (ts.map some ++ List.replicate (d.nv - d.np) none)) else .bad | none => .bad) = _
        have : t.fn i = some ⟨d.np, d.N.length, d.body⟩ := by
          unfold Tbl.fn
          rw [hi]
          rfl
        rw [this]
        simp only
        rw [if_pos (by rw [hlen, hl])]
      rw [hrun] at h
      have view : ∀ {H' : Hp} {F' fo : List Addr}, (∀ a ∈ fo, a ∈ F') → Le (vw H' F' Z) (vw H' [] (zp Z fo)) := fun {H' F' fo} sub => vw_le fun b o e n1 n2 => ⟨e, by simp, fun z => z.elim n2 fun z => n1 (sub b z)⟩
      have s0 : St K Z (L2.start d.N vs) H (ts.map some ++ List.replicate (d.N.length - d.np) none) fp := by
        refine ⟨⟨fp, ?_, List.Perm.refl _⟩, nf, dz, zt⟩
        rw [es]
        refine Sl.args (ow.le (vw_le fun b o e n1 n2 => ⟨e, fun z => n2 (.inr z), fun z => n2 (.inl z)⟩) fun _ _ _ q => q) (Sl.nones _)
      have σ0 : ∀ (i : Nat) (v : V), vs[i]? = some v → (L2.start d.N vs)[i]? = some (some v) := fun i v e => by
        rw [es, List.getElem?_append_left (by simpa using (List.getElem?_eq_some_iff.mp e).1), List.getElem?_map, e]
        rfl
      have outs : ∀ {Z' : Addr → Prop} {σ' : L2.St} {H' : Hp} {ρ' : Rho} {F' : List Addr}, St K Z' σ' H' ρ' F' → Pin (ioOf 0 ts) (L2.start d.N vs) σ' → ∃ fo, OwO K (vw H' F' Z') H' (outsOf ts 0 ρ') vs fo ∧ fo.Nodup ∧ ∀ a ∈ fo, a ∈ F' := fun {Z' σ' H' ρ' F'} s p => by
        obtain ⟨F0, sl, pm⟩ := s.sl
        obtain ⟨fo, k1, k2⟩ := outs_ok (ts := ts) (vs := vs) sl hlen fun i t v a b c => by
          rw [p i (by have := io_mem (n := 0) a b; simpa using this)]
          exact σ0 i v c
        refine ⟨fo, by rw [outs_eq]; exact k1, k2.nodup (pm.nodup_iff.mpr s.nd), fun a ha => pm.mem_iff.mp (k2.subset ha)⟩
      refine ⟨Z, _, fp, s0, ?_⟩
      cases ho : evS (run t.fn n) (ioOf 0 ts) d.body (ts.map some ++ List.replicate (d.N.length - d.np) none) with
      | brk ρ' => rw [ho] at h; exact h.elim
      | cont ρ' => rw [ho] at h; exact h.elim
      | bad => rw [ho] at h; exact h.elim
      | next ρ' =>
        rw [ho] at h
        by_cases hb : allBack ts (outsOf ts 0 ρ') = true
        · rw [show frOf ts (.next ρ') = .ret (.leaf .none) (outsOf ts 0 ρ') from if_pos hb] at h
          intro σ' H' F' s' x' p'
          obtain ⟨fo, k1, k2, k3⟩ := outs s' p'
          have ez : zp Z (fo ++ []) = zp Z fo := by rw [List.append_nil]
          refine h .non H' fo [] (by rw [List.append_nil]; exact k2) (fun a ha => s'.dz a (k3 a (by simpa using ha))) (by rw [ez]; exact k1.view (view k3)) (show Ow K _ H' (.leaf .none) .non [] from ⟨rfl, rfl⟩) (x'.mono fun a ha => k3 a (by simpa using ha))
        · rw [show frOf ts (.next ρ') = .bad from if_neg hb] at h
          exact h.elim
      | ret t' ρ' =>
        rw [ho] at h
        by_cases hb : allBack ts (outsOf ts 0 ρ') = true
        · rw [show frOf ts (.ret t' ρ') = .ret t' (outsOf ts 0 ρ') from if_pos hb] at h
          intro v σ' H' F' fr s' x' p' tm
          obtain ⟨fo, k1, k2, k3⟩ := outs s' p'
          have ez : zp Z (fo ++ fr) = zp (zp Z fr) fo := by
            funext b
            simp [zp]
            exact ⟨fun h => by rcases h with h | h | h <;> simp [h], fun h => by rcases h with (h | h) | h <;> simp [h]⟩
          have vw2 : Le (vw H' F' (zp Z fr)) (vw H' [] (zp Z (fo ++ fr))) := vw_le fun b o e n1 n2 => ⟨e, by simp, fun z => by
            rcases z with z | z
            · exact n2 (.inl z)
            · rcases List.mem_append.mp z with z | z
              · exact n1 (k3 b z)
              · exact n2 (.inr z)⟩
          refine h v H' fo fr (List.nodup_append.mpr ⟨k2, tm.1, fun a ha b hb z => ?_⟩) (fun a ha z => ?_) (k1.view vw2) (tm.2.2.view vw2) (x'.mono fun a ha => ?_)
          · subst z
            exact s'.dz a (k3 a ha) (.inr hb)
          · rcases List.mem_append.mp ha with h | h
            · exact s'.dz a (k3 a h) (.inl z)
            · exact tm.2.1 a h z
          · rcases List.mem_append.mp ha with h | h
            · simp [k3 a h]
            · simp [h]
        · rw [show frOf ts (.ret t' ρ') = .bad from if_neg hb] at h
          exact h.elim
      | exc y ρ' =>
        rw [ho] at h
        by_cases hb : allBack ts (outsOf ts 0 ρ') = true
        · rw [show frOf ts (.exc y ρ') = .exc y (outsOf ts 0 ρ') from if_pos hb] at h
          intro cls dd σ' H' F' s' x' p' er
          obtain ⟨fo, k1, k2, k3⟩ := outs s' p'
          exact h cls dd H' fo k2 (fun a ha => s'.dz a (k3 a ha)) (k1.view (view k3)) (x'.mono k3) (er.le (view k3))
        · rw [show frOf ts (.exc y ρ') = .bad from if_neg hb] at h
          exact h.elim
end
end Pz
/-! P3g: a law whose table answers True holds. -/
namespace Pz
open PySem PySem.Spec PyProof.Rows L2
theorem law_walk {l : PySem.W.OpenLaw} {q : Program} {loose : List Str} {XP : (Str → Option Value) → Heap → Prop} {YP : World → Heap → Prop} {d : DefRec} {K : Params → PySem.W.Frag} {t : Tbl} {GL : List (Str × D)} {n i : Nat} {dl : DefI} {p : Str}
    (hn : l.most = some 63) (hdf : d.params.defaults = []) (hr : Room n callerA) (hY : ∀ (w : World) (h : Heap), YP w h → (K w.params).In h)
    (hi : t[i]? = some dl) (hx : dl.x = d.name) (hnp : dl.np = 1) (hp : dl.N.take dl.np = [p])
    (F : ∀ (w : World) (mg : Str → Option Value) (h : Heap), (K w.params).In h → h.Ns mainGlobals mg → Facts (K w.params) mg t GL)
    (law : ∀ ns : List Int, ns.length ≤ 63 → ∃ outs, run t.fn n i [.scr ns] = .ret (.leaf (.bool true)) outs) :
    PySem.W.WalkO q loose XP YP l.row.toRowW d [] (fun f vs => PySem.call f vs) := by
  refine L2.walk_of (n := 63) (k := n) (x := p) (CX := fun w => L2.CX l.prog w) (sp := fun w => spF (run t.fn n) (fun _ => 0) (K w.params) i dl.np) hn (by decide) hdf hr hY (fun w mg fa h KX G hmg => ?_) (fun w H a ns hl _ hS => ?_) fun w H s e s' z => ?_
  · have FF := F w mg h KX G
    obtain ⟨fa', fd, D⟩ := FF.defs i dl hi
    have ef : fa' = fa := by
      have := D.mg
      rw [hx, hmg] at this
      cases this
      rfl
    subst ef
    refine ⟨fd, fun s u => .of_eq ?_, fun base _ _ => ?_⟩
    · have := D.b [u] (by rw [hnp]; rfl)
      rw [hp] at this
      exact this
    · have := table (P := l.prog) (w := w) (base := base) (ca := fun _ => 0) FF n i dl fa' fd hi D
      rw [hp] at this
      exact this
  · obtain ⟨outs, e⟩ := law ns hl
    refine ⟨fun _ => False, [.scr ns], [], fun _ z => z.elim, List.nodup_nil, (fun _ z => by cases z), ?_, by rw [hnp]; rfl, ?_⟩
    · refine OwL.one ⟨a, rfl, SqL.le (fun b o e => hid_some.mpr ⟨fun z => ?_, e⟩) hS, rfl⟩
      rcases z with z | z | z
      · cases z
      · exact z
      · cases z
    · rw [e]
      intro v H' fo fr _ _ _ ot _
      exact ot.1
  · obtain ⟨_, _, _, _, _, _, _, _, _, _, _, _, z⟩ := z
    exact z.elim
/-- a def as the top has written it -/
theorem fact_mk {K : PySem.W.Frag} {mg : Str → Option Value} {h : Heap} (X : K.In h) (G : h.Ns mainGlobals mg) {d : DefI} {f : Addr} {od an : Option Addr} {sl : Array (Option Value)} {oc kV dc pm cd ct : Value}
    (a : PySem.W.nsIn K mainGlobals d.x = some (some (.ref f))) (lk : K.lookup f = some ⟨oc, od, .func (PySem.W.fnOf d.x d.qual (defArgs d.st) (defBody d.st) (defScope d.st) .none kV dc pm an cd ct), sl⟩)
    (c : PySem.W.codeIn K cd d.qual = true) (k : PySem.W.keepIn K (.ref f) = true)
    (b : ∀ (kV dc pm : Value) (an : Option Addr) (cd ct : Value) (us : List Value), us.length = d.np → bindArgs (PySem.W.fnOf d.x d.qual (defArgs d.st) (defBody d.st) (defScope d.st) .none kV dc pm an cd ct) ⟨us, []⟩ = pure ((d.N.take d.np).zip us))
    (kb : ∀ (kV dc pm : Value) (an : Option Addr) (cd ct : Value) (n : Nat) (ks : List Str) (pp : List Nat), (n, ks, pp) ∈ d.kw → KwB (PySem.W.fnOf d.x d.qual (defArgs d.st) (defBody d.st) (defScope d.st) .none kV dc pm an cd ct) (d.N.take d.np) ks n pp) :
    ∃ fa fd, DefFact K mg d fa fd :=
  ⟨f, _, fun_mk lk c k, PySem.W.mg_of X G a, fun us hu => b _ _ _ _ _ _ us hu, fun n ks pp h => kb _ _ _ _ _ _ n ks pp h⟩
def AllF (K : PySem.W.Frag) (mg : Str → Option Value) : List DefI → Prop
  | [] => True
  | d :: r => (∃ fa fd, DefFact K mg d fa fd) ∧ AllF K mg r
def AllN (K : PySem.W.Frag) : List Str → Prop
  | [] => True
  | x :: r => PySem.W.nsIn K mainGlobals x = some none ∧ AllN K r
theorem AllF.get {K : PySem.W.Frag} {mg : Str → Option Value} : ∀ {t : List DefI} {i : Nat} {d : DefI}, AllF K mg t → t[i]? = some d → ∃ fa fd, DefFact K mg d fa fd
  | [], _, _, _, e => by simp at e
  | d :: r, 0, _, h, e => by simp at e; subst e; exact h.1
  | d :: r, i + 1, _, h, e => AllF.get (i := i) h.2 (by simpa using e)
theorem AllN.get {K : PySem.W.Frag} {h : Heap} {mg : Str → Option Value} (X : K.In h) (G : h.Ns mainGlobals mg) : ∀ {l : List Str}, AllN K l → ∀ x ∈ l, mg x = none
  | [], _, _, z => by cases z
  | y :: r, h, x, z => by
    rcases List.mem_cons.mp z with e | e
    · subst e; exact PySem.W.mg_none_of X G h.1
    · exact AllN.get X G h.2 x e
theorem facts_mk {K : PySem.W.Frag} {mg : Str → Option Value} {h : Heap} (X : K.In h) (G : h.Ns mainGlobals mg) {t : Tbl} (a : AllF K mg t) (b : AllN K bltNames) (c : t.all (chkD t []) = true) : Facts K mg t [] where
  defs := fun i d e => a.get e
  gls := fun x d e => by cases e
  blt := AllN.get X G b
  chk := fun i d e => List.all_eq_true.mp c d (List.mem_of_getElem? e)
end Pz
/-! P3h: names of the module that stand for written data. -/
namespace Pz
open PySem PySem.Spec PyProof.Rows L2
def absA : Value → Option D
  | .none => some .none
  | .bool b => some (.bool b)
  | .int i _ => some (.int i)
  | .str x _ => some (.str x)
  | _ => none
def absAs : List Value → Option (List D)
  | [] => some []
  | u :: us => match absA u, absAs us with | some d, some ds => some (d :: ds) | _, _ => none
theorem absA_ok {K : Frag} {u : Value} {d : D} (h : absA u = some d) : ∃ v, RelV v u ∧ ∀ G, Rp K G d v := by
  cases u <;> simp only [absA, Option.some.injEq, reduceCtorEq] at h
  · subst h; exact ⟨.non, rfl, fun _ => rfl⟩
  · subst h; exact ⟨.bl _, rfl, fun _ => rfl⟩
  · subst h; exact ⟨.int _, ⟨_, rfl⟩, fun _ => rfl⟩
  · subst h; exact ⟨.str _, ⟨_, rfl⟩, fun _ => rfl⟩
theorem absAs_ok {K : Frag} : ∀ {us : List Value} {ds : List D}, absAs us = some ds → ∃ vs, Vals vs us ∧ ∀ G, RpL K G ds vs
  | [], ds, h => by
    simp only [absAs, Option.some.injEq] at h
    subst h
    exact ⟨[], .nil, fun _ => rfl⟩
  | u :: us, ds, h => by
    unfold absAs at h
    cases h1 : absA u with
    | none => rw [h1] at h; cases h
    | some d =>
      cases h2 : absAs us with
      | none => rw [h1, h2] at h; cases h
      | some es =>
        rw [h1, h2] at h
        cases h
        obtain ⟨v, r1, p1⟩ := absA_ok (K := K) h1
        obtain ⟨vs, r2, p2⟩ := absAs_ok (K := K) h2
        exact ⟨v :: vs, .cons r1 r2, fun G => .cons (p1 G) (p2 G)⟩
def GlF (K : Frag) (mg : Str → Option Value) (x : Str) (d : D) : Prop := ∃ u v, mg x = some u ∧ RelV v u ∧ ∀ G, Rp K G d v
theorem gl_atom {K : Frag} {mg : Str → Option Value} {h : Heap} (X : K.In h) (G : h.Ns mainGlobals mg) {x : Str} {u : Value} {d : D} (e : PySem.W.nsIn K mainGlobals x = some (some u)) (r : absA u = some d) : GlF K mg x d := by
  obtain ⟨v, r1, p1⟩ := absA_ok (K := K) r
  exact ⟨u, v, PySem.W.mg_of X G e, r1, p1⟩
theorem gl_tup {K : Frag} {mg : Str → Option Value} {h : Heap} (X : K.In h) (G : h.Ns mainGlobals mg) {x : Str} {a : Addr} {od : Option Addr} {its : Array Value} {n : Nat} {sl : Array (Option Value)} {ds : List D} (e : PySem.W.nsIn K mainGlobals x = some (some (.ref a)))
    (lk : K.lookup a = some ⟨.type "tuple", od, .seq its n, sl⟩) (r : absAs its.toList = some ds) (hl : its.size ≤ 1000) : GlF K mg x (.tuple ds) := by
  obtain ⟨vs, r1, p1⟩ := absAs_ok (K := K) r
  exact ⟨.ref a, .ref a, PySem.W.mg_of X G e, rfl, fun G' => ⟨a, vs, rfl, .inr ⟨_, its, n, lk, rfl, rfl, by unfold sizeLine; omega, r1⟩, p1 G'⟩⟩
def AllG (K : Frag) (mg : Str → Option Value) : List (Str × D) → Prop
  | [] => True
  | (x, d) :: r => GlF K mg x d ∧ AllG K mg r
theorem AllG.get {K : Frag} {mg : Str → Option Value} : ∀ {l : List (Str × D)} {x : Str} {d : D}, AllG K mg l → l.lookup x = some d → GlF K mg x d
  | [], _, _, _, h => by cases h
  | (y, e) :: r, x, d, a, h => by
    rw [List.lookup_cons] at h
    split at h
    · rename_i q
      have := beq_iff_eq.1 q
      subst this
      cases h
      exact a.1
    · exact AllG.get a.2 h
theorem facts_mkG {K : PySem.W.Frag} {mg : Str → Option Value} {h : Heap} (X : K.In h) (G : h.Ns mainGlobals mg) {t : Tbl} {GL : List (Str × D)} (a : AllF K mg t) (b : AllN K bltNames) (g : AllG K mg GL) (c : t.all (chkD t GL) = true) : Facts K mg t GL where
  defs := fun i d e => a.get e
  gls := fun x d e => g.get e
  blt := AllN.get X G b
  chk := fun i d e => List.all_eq_true.mp c d (List.mem_of_getElem? e)
end Pz
/-! P4: runs of the evaluator, step by step; each continuation has a name, so that simp goes from the left. -/
namespace Pz
open PySem
def wR {α : Type} (r : R α) (K : α → Rho → Prop) : Prop := match r with | .ok a ρ => K a ρ | _ => False
def wE (φ : Nat → List T → FR) (m : M) (e : E) (ρ : Rho) (K : T → Rho → Prop) : Prop := wR (ev φ m e ρ) K
def wEs (φ : Nat → List T → FR) (es : Es) (ρ : Rho) (K : List T → Rho → Prop) : Prop := wR (evEs φ es ρ) K
def wI (φ : Nat → List T → FR) (it : It) (ρ : Rho) (K : List D → Rho → Prop) : Prop := wR (evIt φ it ρ) K
/-- a test: the answer is a bool -/
def wC (φ : Nat → List T → FR) (e : E) (ρ : Rho) (K : Bool → Rho → Prop) : Prop := wR (condR (ev φ .cd e ρ)) K
def wS (φ : Nat → List T → FR) (io : List Nat) (s : S) (ρ : Rho) (Q : O → Prop) : Prop := Q (evS φ io s ρ)
def wO {α : Type} (o : Option α) (K : α → Prop) : Prop := match o with | some a => K a | none => False
theorem wR_ok {α : Type} {a : α} {ρ : Rho} {K : α → Rho → Prop} : wR (.ok a ρ) K = K a ρ := rfl
theorem wR_bad {α : Type} {K : α → Rho → Prop} : wR (.bad : R α) K = False := rfl
theorem wR_bind {α β : Type} {r : R α} {f : α → Rho → R β} {K : β → Rho → Prop} : wR (r.bind f) K = wR r (fun a ρ => wR (f a ρ) K) := by cases r <;> rfl
theorem wR_bindK {α β : Type} {r : R α} {f : α → Rho → R β} {K : β → Rho → Prop} {K' : α → Rho → Prop} (h : ∀ a ρ, wR (f a ρ) K = K' a ρ) : wR (r.bind f) K = wR r K' := by cases r <;> first | exact h _ _ | rfl
theorem wR_of {α : Type} {o : Option α} {ρ : Rho} {K : α → Rho → Prop} : wR (R.of o ρ) K = wO o (fun a => K a ρ) := by cases o <;> rfl
theorem wR_imp {α : Type} {r : R α} {K K' : α → Rho → Prop} (h : wR r K) (k : ∀ a ρ, K a ρ → K' a ρ) : wR r K' := by
  cases r <;> first | exact k _ _ h | exact h
def kEq {α : Type} (a : α) (ρ : Rho) : α → Rho → Prop := fun b ρ' => b = a ∧ ρ' = ρ
theorem wR_eq {α : Type} {r : R α} {a : α} {ρ : Rho} : wR r (kEq a ρ) → r = .ok a ρ := by
  intro h
  cases r with
  | ok b ρ' => obtain ⟨e1, e2⟩ := h; subst e1 e2; rfl
  | exc x ρ' => exact h.elim
  | bad => exact h.elim
theorem kEq_at {α : Type} {a b : α} {ρ ρ' : Rho} : kEq a ρ b ρ' = (b = a ∧ ρ' = ρ) := rfl
section
variable {φ : Nat → List T → FR} {m : M} {ρ : Rho} {K : T → Rho → Prop}
theorem finR {r : R T} (h : m ≠ .cd) : fin m r = r := by cases m <;> first | rfl | exact absurd rfl h
/-! ### atoms -/
theorem wE_non (h : m ≠ .cd) : wE φ m .non ρ K = K (.leaf .none) ρ := by unfold wE ev; rw [finR h]; rfl
theorem wE_bl (h : m ≠ .cd) {b : Bool} : wE φ m (.bl b) ρ K = K (.leaf (.bool b)) ρ := by unfold wE ev; rw [finR h]; rfl
theorem wE_int (h : m ≠ .cd) {i : Int} : wE φ m (.int i) ρ K = K (.leaf (.int i)) ρ := by unfold wE ev; rw [finR h]; rfl
theorem wE_str (h : m ≠ .cd) {x : Str} : wE φ m (.str x) ρ K = K (.leaf (.str x)) ρ := by unfold wE ev; rw [finR h]; rfl
theorem wE_glob (h : m ≠ .cd) {x : Str} {d : D} : wE φ m (.glob x d) ρ K = K (.leaf d) ρ := by unfold wE ev; rw [finR h]; rfl
theorem wE_varR {k : Nat} : wE φ .rd (.var k) ρ K = wO (getSlot ρ k) (fun t => K t ρ) := by
  unfold wE ev
  cases getSlot ρ k with
  | none => rfl
  | some t => rfl
def mvK (ρ : Rho) (k : Nat) (K : T → Rho → Prop) (t : T) : Prop := if t.free = true then K t ρ else K t (ρ.set k none)
theorem wE_varM {k : Nat} : wE φ .mv (.var k) ρ K = wO (getSlot ρ k) (mvK ρ k K) := by
  unfold wE ev
  cases getSlot ρ k with
  | none => rfl
  | some t =>
    unfold mvK wO
    cases q : t.free with
    | true => simp [q, fin, wR]
    | false => simp [q, fin, wR]
theorem wO_some {α : Type} {a : α} {K : α → Prop} : wO (some a) K = K a := rfl
theorem wO_none {α : Type} {K : α → Prop} : wO none K = False := rfl
theorem mvK_leaf {k : Nat} {d : D} : mvK ρ k K (.leaf d) = K (.leaf d) ρ := rfl
theorem mvK_scr {k : Nat} {ns : List Int} : mvK ρ k K (.scr ns) = K (.scr ns) ρ := rfl
theorem mvK_lst {k : Nat} {ts : List T} : mvK ρ k K (.lst ts) = K (.lst ts) (ρ.set k none) := rfl
theorem mvK_dct {k : Nat} {kvs : List (Key × T)} : mvK ρ k K (.dct kvs) = K (.dct kvs) (ρ.set k none) := rfl
/-! ### operators -/
def kBin2 (op : Op) (a : E) (pb : Bool) (t : T) (K : T → Rho → Prop) (y : T) (ρ : Rho) : Prop := wO (opnd a t ρ pb) fun x => wO (binOp op x y) fun u => K u ρ
def kBin (φ : Nat → List T → FR) (op : Op) (a b : E) (K : T → Rho → Prop) (t : T) (ρ : Rho) : Prop := wE φ .rd b ρ (kBin2 op a (pureE b) t K)
theorem wE_bin (h : m ≠ .cd) {op : Op} {a b : E} : wE φ m (.bin op a b) ρ K = wE φ .rd a ρ (kBin φ op a b K) := by
  unfold wE
  rw [ev, finR h]
  refine wR_bindK fun t ρ1 => wR_bindK fun y ρ2 => ?_
  unfold kBin2
  cases opnd a t ρ2 (pureE b) with
  | none => rfl
  | some x => exact wR_of
def kNeg (K : T → Rho → Prop) (t : T) (ρ : Rho) : Prop := wO (asInt t) fun i => K (.leaf (.int (-i))) ρ
theorem wE_neg (h : m ≠ .cd) {a : E} : wE φ m (.neg a) ρ K = wE φ .rd a ρ (kNeg K) := by
  unfold wE
  rw [ev, finR h]
  refine wR_bindK fun t ρ1 => ?_
  cases t with
  | leaf d => cases d <;> rfl
  | _ => rfl
def kCmp2 (c : Cm) (a : E) (pb : Bool) (t : T) (K : Bool → Rho → Prop) (y : T) (ρ : Rho) : Prop := wO (opnd a t ρ pb) fun x => wO (cmpOp c x y) fun u => K u ρ
def kCmp (φ : Nat → List T → FR) (c : Cm) (a b : E) (K : Bool → Rho → Prop) (t : T) (ρ : Rho) : Prop := wE φ .rd b ρ (kCmp2 c a (pureE b) t K)
def kB (K : T → Rho → Prop) (b : Bool) (ρ : Rho) : Prop := K (.leaf (.bool b)) ρ
theorem wE_cmp {c : Cm} {a b : E} : wE φ m (.cmp c a b) ρ K = wE φ .rd a ρ (kCmp φ c a b (kB K)) := by
  unfold wE
  rw [ev]
  refine wR_bindK fun t ρ1 => wR_bindK fun y ρ2 => ?_
  unfold kCmp2
  cases opnd a t ρ2 (pureE b) with
  | none => rfl
  | some x =>
    show wR (match cmpOp c x y with | some k => R.ok (T.leaf (.bool k)) ρ2 | none => .bad) K = wO (cmpOp c x y) (fun u => kB K u ρ2)
    cases cmpOp c x y <;> rfl
theorem kB_at {b : Bool} : kB K b ρ = K (.leaf (.bool b)) ρ := rfl
variable {C : Bool → Rho → Prop}
theorem wC_def {e : E} : wC φ e ρ C = wE φ .cd e ρ (fun t ρ => match t with | .leaf (.bool b) => C b ρ | _ => False) := by
  unfold wC condR wE
  refine wR_bindK fun t ρ1 => ?_
  cases t with
  | leaf d => cases d <;> rfl
  | _ => rfl
theorem wC_cmp {c : Cm} {a b : E} : wC φ (.cmp c a b) ρ C = wE φ .rd a ρ (kCmp φ c a b C) := by
  rw [wC_def, wE_cmp]
  rfl
/-- a truth of anything else -/
def kTru (C : Bool → Rho → Prop) (t : T) (ρ : Rho) : Prop := wO t.truth fun b => C b ρ
theorem wC_fin {e : E} {r : R T} (h1 : ev φ .cd e ρ = fin .cd r) (h2 : ev φ .rd e ρ = r) : wC φ e ρ C = wE φ .rd e ρ (kTru C) := by
  rw [wC_def]
  unfold wE
  rw [h1, h2]
  unfold fin
  simp only
  refine wR_bindK fun t ρ1 => ?_
  unfold kTru
  cases t.truth <;> rfl
theorem wC_var {k : Nat} : wC φ (.var k) ρ C = wE φ .rd (.var k) ρ (kTru C) := by
  unfold wC wE condR
  rw [ev, ev]
  cases getSlot ρ k with
  | none => rfl
  | some t =>
    show wR ((fin .cd (.ok t ρ)).bind _) C = wR (fin .rd (.ok t ρ)) (kTru C)
    unfold fin kTru
    simp only [R.bind, wR_ok]
    cases t.truth <;> rfl
def isAnd (φ : Nat → List T → FR) (b : E) (C : Bool → Rho → Prop) (k : Bool) (ρ : Rho) : Prop := if k = true then wC φ b ρ C else C false ρ
def isOr (φ : Nat → List T → FR) (b : E) (C : Bool → Rho → Prop) (k : Bool) (ρ : Rho) : Prop := if k = true then C true ρ else wC φ b ρ C
def isNot (C : Bool → Rho → Prop) (k : Bool) (ρ : Rho) : Prop := C (!k) ρ
theorem wC_and {a b : E} : wC φ (.and a b) ρ C = wC φ a ρ (isAnd φ b C) := by
  unfold wC condR
  rw [ev, if_pos rfl]
  rw [wR_bind, wR_bind, wR_bind]
  congr 1
  funext t ρ1
  cases t with
  | leaf d => 
    cases d with
    | bool b0 =>
      cases b0 with
      | true => exact (wR_bind (r := ev φ .cd b ρ1) (f := fun t ρ1 => match t with | .leaf (.bool b) => R.ok b ρ1 | _ => .bad) (K := C)).symm
      | false => rfl
    | _ => rfl
  | _ => rfl
theorem wC_or {a b : E} : wC φ (.or a b) ρ C = wC φ a ρ (isOr φ b C) := by
  unfold wC condR
  rw [ev, if_pos rfl]
  rw [wR_bind, wR_bind, wR_bind]
  congr 1
  funext t ρ1
  cases t with
  | leaf d => 
    cases d with
    | bool b0 =>
      cases b0 with
      | false => exact (wR_bind (r := ev φ .cd b ρ1) (f := fun t ρ1 => match t with | .leaf (.bool b) => R.ok b ρ1 | _ => .bad) (K := C)).symm
      | true => rfl
    | _ => rfl
  | _ => rfl
theorem wC_not {a : E} : wC φ (.not a) ρ C = wC φ a ρ (isNot C) := by
  unfold wC condR
  rw [ev, if_pos rfl]
  rw [wR_bind, wR_bind, wR_bind]
  congr 1
  funext t ρ1
  cases t with
  | leaf d => cases d <;> rfl
  | _ => rfl
def kChain2 (φ : Nat → List T → FR) (c c' : Cm) (d : E) (K : Bool → Rho → Prop) (x y : T) (ρ : Rho) : Prop := wO (cmpOp c x y) fun u => if u = true then wE φ .rd d ρ (fun z ρ3 => wO (cmpOp c' y z) fun k => K k ρ3) else K false ρ
theorem wO_map {α β : Type} {o : Option α} {f : α → β} {K : β → Prop} : wO (o.map f) K = wO o (fun a => K (f a)) := by cases o <;> rfl
/-! ### parts -/
def kIdx2 (m : M) (a : E) (pb : Bool) (t : T) (K : T → Rho → Prop) (y : T) (ρ : Rho) : Prop := wO (opnd a t ρ pb) fun x => wO (leafOf y) fun d => wO (idxT x d) fun u => (m ≠ .mv ∨ u.isLeaf = true) ∧ K u ρ
def kIdx (φ : Nat → List T → FR) (m : M) (a i : E) (K : T → Rho → Prop) (t : T) (ρ : Rho) : Prop := wE φ .rd i ρ (kIdx2 m a (pureE i) t K)
theorem wE_idx (h : m ≠ .cd) {a i : E} : wE φ m (.idx a i) ρ K = wE φ .rd a ρ (kIdx φ m a i K) := by
  unfold wE
  rw [ev, finR h]
  refine wR_bindK fun t ρ1 => wR_bindK fun y ρ2 => ?_
  unfold kIdx2
  cases opnd a t ρ2 (pureE i) with
  | none => rfl
  | some x =>
    cases y with
    | leaf d =>
      show wR (match idxT x d with | some u => if m ≠ .mv ∨ u.isLeaf = true then R.ok u ρ2 else .bad | none => .bad) K = wO (idxT x d) (fun u => (m ≠ .mv ∨ u.isLeaf = true) ∧ K u ρ2)
      cases idxT x d with
      | none => rfl
      | some u =>
        show wR (if m ≠ .mv ∨ u.isLeaf = true then R.ok u ρ2 else .bad) K = _
        by_cases hc : m ≠ .mv ∨ u.isLeaf = true
        · rw [if_pos hc]
          exact propext ⟨fun z => ⟨hc, z⟩, fun z => z.2⟩
        · rw [if_neg hc]
          exact propext ⟨fun z => z.elim, fun z => hc z.1⟩
    | _ => rfl
/-! ### displays, calls -/
def kTup (K : T → Rho → Prop) (ts : List T) (ρ : Rho) : Prop := wO (leaves ts) fun ds => ds.length ≤ sizeLine ∧ K (.leaf (.tuple ds)) ρ
theorem wE_tup (h : m ≠ .cd) {es : Es} : wE φ m (.tup es) ρ K = wEs φ es ρ (kTup K) := by
  unfold wE wEs
  rw [ev, finR h]
  refine wR_bindK fun ts ρ1 => ?_
  unfold kTup
  cases leaves ts with
  | none => rfl
  | some ds =>
    show wR (if ds.length ≤ sizeLine then R.ok (T.leaf (.tuple ds)) ρ1 else .bad) K = _
    by_cases hc : ds.length ≤ sizeLine
    · rw [if_pos hc]; exact propext ⟨fun z => ⟨hc, z⟩, fun z => z.2⟩
    · rw [if_neg hc]; exact propext ⟨fun z => z.elim, fun z => hc z.1⟩
def kLst (K : T → Rho → Prop) (ts : List T) (ρ : Rho) : Prop := ts.length ≤ sizeLine ∧ K (.lst ts) ρ
theorem wE_lst (h : m ≠ .cd) {es : Es} : wE φ m (.lst es) ρ K = wEs φ es ρ (kLst K) := by
  unfold wE wEs
  rw [ev, finR h]
  refine wR_bindK fun ts ρ1 => ?_
  unfold kLst
  by_cases hc : ts.length ≤ sizeLine
  · rw [if_pos hc]; exact propext ⟨fun z => ⟨hc, z⟩, fun z => z.2⟩
  · rw [if_neg hc]; exact propext ⟨fun z => z.elim, fun z => hc z.1⟩
theorem wEs_nil {K : List T → Rho → Prop} : wEs φ .nil ρ K = K [] ρ := rfl
def kEsT (K : List T → Rho → Prop) (t : T) (ts : List T) (ρ : Rho) : Prop := K (t :: ts) ρ
def kEs (φ : Nat → List T → FR) (es : Es) (K : List T → Rho → Prop) (t : T) (ρ : Rho) : Prop := wEs φ es ρ (kEsT K t)
theorem wEs_cons {e : E} {es : Es} {K : List T → Rho → Prop} (h : ∀ k, e ≠ .var k) : wEs φ (.cons e es) ρ K = wE φ .mv e ρ (kEs φ es K) := by
  unfold wEs wE
  cases e with
  | var k => exact absurd rfl (h k)
  | _ => 
    rw [evEs]
    · exact wR_bindK fun t ρ1 => wR_bindK fun ts ρ2 => rfl
    · exact fun k z => by cases z
def kVarT (K : List T → Rho → Prop) (ts : List T) (t : T) (ρ : Rho) : Prop := K (t :: ts) ρ
def kVar (φ : Nat → List T → FR) (k : Nat) (K : List T → Rho → Prop) (ts : List T) (ρ : Rho) : Prop := wE φ .mv (.var k) ρ (kVarT K ts)
theorem wEs_var {k : Nat} {es : Es} {K : List T → Rho → Prop} : wEs φ (.cons (.var k) es) ρ K = ((getSlot ρ k).isSome = true ∧ wEs φ es ρ (kVar φ k K)) := by
  unfold wEs
  rw [evEs]
  by_cases h : (getSlot ρ k).isSome = true
  · rw [if_pos h]
    refine propext ⟨fun z => ⟨h, ?_⟩, fun z => ?_⟩
    · rw [wR_bind] at z
      exact wR_imp z fun ts ρ1 q => by
        unfold kVar wE
        rw [wR_bind] at q
        exact q
    · rw [wR_bind]
      exact wR_imp z.2 fun ts ρ1 q => by
        rw [wR_bind]
        exact q
  · rw [if_neg h]
    exact propext ⟨fun z => z.elim, fun z => absurd z.1 h⟩
/-- a dict's values -/
def wEsO (φ : Nat → List T → FR) (es : Es) (ρ : Rho) (K : List T → Rho → Prop) : Prop := wR (evEsO φ es ρ) K
theorem wEsO_nil {K : List T → Rho → Prop} : wEsO φ .nil ρ K = K [] ρ := rfl
def kEsO (φ : Nat → List T → FR) (es : Es) (K : List T → Rho → Prop) (t : T) (ρ : Rho) : Prop := wEsO φ es ρ (kEsT K t)
theorem wEsO_cons {e : E} {es : Es} {K : List T → Rho → Prop} : wEsO φ (.cons e es) ρ K = wE φ .mv e ρ (kEsO φ es K) := by
  unfold wEsO wE
  rw [evEsO]
  exact wR_bindK fun t ρ1 => wR_bindK fun ts ρ2 => rfl
def wF (fr : FR) (Q : T → List (Option T) → Prop) : Prop := match fr with | .ret t outs => Q t outs | _ => False
def kCall (φ : Nat → List T → FR) (f : Nat) (es : Es) (K : T → Rho → Prop) (ts : List T) (ρ : Rho) : Prop := wF (φ f ts) fun t outs => K t (putBack es outs ρ)
theorem wE_call (h : m ≠ .cd) {f : Nat} {es : Es} : wE φ m (.call f es) ρ K = wEs φ es ρ (kCall φ f es K) := by
  unfold wE wEs
  rw [ev, finR h]
  refine wR_bindK fun ts ρ1 => ?_
  unfold kCall
  cases φ f ts <;> rfl
def kF1 (f : F1) (K : T → Rho → Prop) (t : T) (ρ : Rho) : Prop := wO (fun1 f t) fun u => K u ρ
theorem wE_f1 (h : m ≠ .cd) {f : F1} {a : E} : wE φ m (.f1 f a) ρ K = wE φ .rd a ρ (kF1 f K) := by
  unfold wE
  rw [ev, finR h]
  exact wR_bindK fun t ρ1 => wR_of
def kIsi (y : Ty) (K : Bool → Rho → Prop) (t : T) (ρ : Rho) : Prop := wO (isTy t y) fun b => K b ρ
theorem wE_isi {a : E} {y : Ty} : wE φ m (.isi a y) ρ K = wE φ .rd a ρ (kIsi y (kB K)) := by
  unfold wE
  rw [ev]
  refine wR_bindK fun t ρ1 => ?_
  unfold kIsi
  cases isTy t y <;> rfl
theorem wC_isi {a : E} {y : Ty} : wC φ (.isi a y) ρ C = wE φ .rd a ρ (kIsi y C) := by
  rw [wC_def, wE_isi]
  rfl
def kIte (φ : Nat → List T → FR) (m : M) (a b : E) (K : T → Rho → Prop) (k : Bool) (ρ : Rho) : Prop := if k = true then wE φ m a ρ (fun y ρ2 => (y.isLeaf = true ∨ m = .mv) ∧ K y ρ2) else wE φ m b ρ (fun y ρ2 => (y.isLeaf = true ∨ m = .mv) ∧ K y ρ2)
theorem wE_ite {c a b : E} : wE φ m (.ite c a b) ρ K = wC φ c ρ (kIte φ m a b K) := by
  unfold wC condR wE
  rw [ev, wR_bind, wR_bind]
  congr 1
  funext t ρ1
  have br : ∀ e : E, wR ((ev φ m e ρ1).bind fun y ρ2 => if y.isLeaf = true ∨ m = .mv then .ok y ρ2 else .bad) K = wE φ m e ρ1 (fun y ρ2 => (y.isLeaf = true ∨ m = .mv) ∧ K y ρ2) := fun e => by
    unfold wE
    refine wR_bindK fun y ρ2 => ?_
    by_cases hc : y.isLeaf = true ∨ m = .mv
    · rw [if_pos hc]; exact propext ⟨fun z => ⟨hc, z⟩, fun z => z.2⟩
    · rw [if_neg hc]; exact propext ⟨fun z => z.elim, fun z => hc z.1⟩
  cases t with
  | leaf d =>
    cases d with
    | bool b0 =>
      cases b0 with
      | true => rw [show wR (R.ok true ρ1) (kIte φ m a b K) = kIte φ m a b K true ρ1 from rfl]; unfold kIte; rw [if_pos rfl]; exact br a
      | false => rw [show wR (R.ok false ρ1) (kIte φ m a b K) = kIte φ m a b K false ρ1 from rfl]; unfold kIte; rw [if_neg Bool.false_ne_true]; exact br b
    | _ => rfl
  | _ => rfl
end
end Pz
/-! P4b: symbolic runs: walks, comprehensions, statements. -/
namespace Pz
open PySem
section
variable {φ : Nat → List T → FR} {m : M} {ρ : Rho} {K : T → Rho → Prop} {C : Bool → Rho → Prop}
theorem and_if {c : Prop} [Decidable c] {A : Prop} : (if c then A else False) = (c ∧ A) := by
  by_cases h : c <;> simp [h]
theorem wR_if {α : Type} {c : Prop} [Decidable c] {r : R α} {L : α → Rho → Prop} : wR (if c then r else .bad) L = (c ∧ wR r L) := by
  by_cases h : c
  · rw [if_pos h]; exact propext ⟨fun z => ⟨h, z⟩, fun z => z.2⟩
  · rw [if_neg h]; exact propext ⟨fun z => z.elim, fun z => h z.1⟩
def kF22 (f : F2) (x : T) (K : T → Rho → Prop) (y : T) (ρ : Rho) : Prop := wO (fun2 f x y) fun u => K u ρ
def kF2 (φ : Nat → List T → FR) (f : F2) (b : E) (K : T → Rho → Prop) (x : T) (ρ : Rho) : Prop := wE φ .rd b ρ (kF22 f x K)
theorem wE_f2 (h : m ≠ .cd) {f : F2} {a b : E} : wE φ m (.f2 f a b) ρ K = wE φ .rd a ρ (kF2 φ f b K) := by
  unfold wE
  rw [ev, finR h]
  exact wR_bindK fun t ρ1 => wR_bindK fun y ρ2 => wR_of
/-! ### walks -/
variable {L : List D → Rho → Prop}
def kSeq (a : E) (L : List D → Rho → Prop) (t : T) (ρ : Rho) : Prop := stands a t = true ∧ wO (itemsS t) fun ds => L ds ρ
theorem wI_seq {a : E} : wI φ (.seq a) ρ L = wE φ .rd a ρ (kSeq a L) := by
  unfold wI wE
  rw [evIt]
  refine wR_bindK fun t ρ1 => ?_
  rw [wR_if, wR_of]
  rfl
def kRng1 (L : List D → Rho → Prop) (t : T) (ρ : Rho) : Prop := wO (asInt t) fun i => big62 i = true ∧ L ((List.range i.toNat).map fun (j : Nat) => .int (j : Int)) ρ
theorem wI_rng1 {a : E} : wI φ (.rng1 a) ρ L = wE φ .rd a ρ (kRng1 L) := by
  unfold wI wE
  rw [evIt]
  refine wR_bindK fun t ρ1 => ?_
  unfold kRng1
  cases asInt t with
  | none => rfl
  | some i => exact wR_if
def kEnum (a : E) (L : List D → Rho → Prop) (t : T) (ρ : Rho) : Prop := stands a t = true ∧ wO (itemsS t) fun ds => L (enumFrom 0 ds) ρ
theorem wI_enum {a : E} : wI φ (.enum a) ρ L = wE φ .rd a ρ (kEnum a L) := by
  unfold wI wE
  rw [evIt]
  refine wR_bindK fun t ρ1 => ?_
  rw [wR_if]
  unfold kEnum
  cases itemsS t <;> rfl
def kZip2 (a b : E) (x : T) (L : List D → Rho → Prop) (y : T) (ρ : Rho) : Prop := wO (opnd b y ρ false) fun y' => stands b y' = true ∧ wO (opnd a x ρ false) fun x' => stands a x' = true ∧ wO (items x') fun xs => wO (items y') fun ys => L ((xs.zip ys).map fun (x, y) => .tuple [x, y]) ρ
def kZip (φ : Nat → List T → FR) (a b : E) (L : List D → Rho → Prop) (x : T) (ρ : Rho) : Prop := wE φ .rd b ρ (kZip2 a b x L)
theorem wI_zip {a b : E} : wI φ (.zip (.cons a (.cons b .nil))) ρ L = wE φ .rd a ρ (kZip φ a b L) := by
  unfold wI wE
  rw [evIt, evRds, wR_bind, wR_bind]
  congr 1
  funext x ρ1
  rw [evRds, wR_bind, wR_bind]
  unfold kZip wE
  congr 1
  funext y ρ2
  unfold kZip2
  rw [evRds]
  simp only [R.bind]
  cases opnd b y ρ2 false with
  | none => rfl
  | some y' =>
    simp only [wO_some]
    by_cases h1 : stands b y' = true
    · rw [if_pos h1, wR_ok]
      cases opnd a x ρ2 false with
      | none => simp [wR, wO]
      | some x' =>
        simp only [wO_some]
        by_cases h2 : stands a x' = true
        · rw [if_pos h2, wR_ok]
          simp only [itemsAll, h1, h2, true_and]
          cases items x' with
          | none => rfl
          | some xs =>
            simp only [wO_some]
            cases items y' with
            | none => rfl
            | some ys => rfl
        · rw [if_neg h2]
          simp [wR, h2]
    · rw [if_neg h1]
      simp [wR, h1]
/-! ### comprehensions -/
def compF (φ : Nat → List T → FR) (e : E) (p : Pat) (c : E) (d : D) (ρ3 : Rho) : R (Option T) := match bindP p d ρ3 with
  | some ρ4 => (yesR (isNop c) (ev φ .cd c ρ4) ρ4).bind fun k ρ5 => (if k = true then (ev φ .mv e ρ5).bind fun t ρ6 => (match wipeR (patVs p) ρ6 with
      | some ρ7 => .ok (some t) ρ7
      | none => .bad)
    else (match wipeR (patVs p) ρ5 with
      | some ρ7 => .ok none ρ7
      | none => .bad))
  | none => .bad
def kCompE (p : Pat) (it : It) (ρ1 : Rho) (K : T → Rho → Prop) (ts : List T) (ρ8 : Rho) : Prop := ts.length ≤ sizeLine ∧ K (.lst ts) (putIt ρ1 it (restore (takeIt it ρ1) (patVs p) ρ8))
def kComp (φ : Nat → List T → FR) (e : E) (p : Pat) (it : It) (c : E) (K : T → Rho → Prop) (ds : List D) (ρ1 : Rho) : Prop := (ioIt it ρ1).any (fun k => decide (k ∈ patVs p)) = false ∧ wO (wipeR (patVs p) (takeIt it ρ1)) fun ρ2 => wR (compM (compF φ e p c) ds ρ2) (kCompE p it ρ1 K)
theorem wE_comp (h : m ≠ .cd) {e : E} {p : Pat} {it : It} {c : E} : wE φ m (.comp e p it c) ρ K = wI φ it ρ (kComp φ e p it c K) := by
  unfold wE wI
  rw [ev, finR h]
  refine wR_bindK fun ds ρ1 => ?_
  unfold kComp
  by_cases hc : (ioIt it ρ1).any (fun k => decide (k ∈ patVs p)) = true
  · rw [if_pos hc, hc]
    simp [wR]
  · rw [if_neg hc]
    have hc' : (ioIt it ρ1).any (fun k => decide (k ∈ patVs p)) = false := by simpa using hc
    rw [hc']
    cases wipeR (patVs p) (takeIt it ρ1) with
    | none => simp [wR, wO]
    | some ρ2 =>
      simp only [wO_some, true_and]
      show wR (R.map1 _ ((nox (compM (compF φ e p c) ds ρ2)).bind _)) K = _
      cases compM (compF φ e p c) ds ρ2 with
      | ok ts ρ8 =>
        simp only [nox, R.bind, wR_ok]
        unfold kCompE
        by_cases hl : ts.length ≤ sizeLine
        · rw [if_pos hl]
          simp [R.map1, wR, hl]
        · rw [if_neg hl]
          simp [R.map1, wR, hl]
      | exc x ρ8 => rfl
      | bad => rfl
variable {J : Option T → Rho → Prop}
def kEnd (p : Pat) (J : Option T → Rho → Prop) (t : T) (ρ : Rho) : Prop := wO (wipeR (patVs p) ρ) fun ρ7 => J (some t) ρ7
def kYes (φ : Nat → List T → FR) (e : E) (p : Pat) (J : Option T → Rho → Prop) (k : Bool) (ρ : Rho) : Prop := if k = true then wE φ .mv e ρ (kEnd p J) else wO (wipeR (patVs p) ρ) fun ρ7 => J none ρ7
theorem compF_nop {e : E} {p : Pat} {d : D} : wR (compF φ e p .nop d ρ) J = wO (bindP p d ρ) fun ρ4 => wE φ .mv e ρ4 (kEnd p J) := by
  unfold compF
  cases bindP p d ρ with
  | none => rfl
  | some ρ4 =>
    show wR ((ev φ .mv e ρ4).bind _) J = wE φ .mv e ρ4 (kEnd p J)
    unfold wE
    refine wR_bindK fun t ρ6 => ?_
    unfold kEnd
    cases wipeR (patVs p) ρ6 <;> rfl
theorem compF_if {e : E} {p : Pat} {c : E} {d : D} (hn : isNop c = false) : wR (compF φ e p c d ρ) J = wO (bindP p d ρ) fun ρ4 => wC φ c ρ4 (kYes φ e p J) := by
  unfold compF
  cases bindP p d ρ with
  | none => rfl
  | some ρ4 =>
    simp only [wO_some]
    unfold wC condR yesR
    rw [hn]
    simp only [Bool.false_eq_true, if_false]
    refine wR_bindK fun k ρ5 => ?_
    unfold kYes
    cases k with
    | true =>
      simp only [if_true]
      unfold wE
      refine wR_bindK fun t ρ6 => ?_
      unfold kEnd
      cases wipeR (patVs p) ρ6 <;> rfl
    | false =>
      simp only [Bool.false_eq_true, if_false]
      cases wipeR (patVs p) ρ5 <;> rfl
end
/-! ### statements -/
def wQ (o : O) (Q : O → Prop) : Prop := match o with | .exc _ _ => False | .bad => False | o => Q o
def wT (φ : Nat → List T → FR) (io : List Nat) (s : S) (ρ : Rho) (Q : O → Prop) : Prop := wQ (evS φ io s ρ) Q
theorem wQ_go {α : Type} {r : R α} {f : α → Rho → O} {Q : O → Prop} {K : α → Rho → Prop} (h : ∀ a ρ, wQ (f a ρ) Q = K a ρ) : wQ (r.go f) Q = wR r K := by cases r <;> first | exact h _ _ | rfl
def kThn (φ : Nat → List T → FR) (io : List Nat) (s : S) (Q : O → Prop) : O → Prop
  | .next ρ => wT φ io s ρ Q
  | .ret t ρ => Q (.ret t ρ)
  | .brk ρ => Q (.brk ρ)
  | .cont ρ => Q (.cont ρ)
  | _ => False
section
variable {φ : Nat → List T → FR} {io : List Nat} {ρ : Rho} {Q : O → Prop} {s : S}
theorem wQ_next : wQ (.next ρ) Q = Q (.next ρ) := rfl
theorem kThn_next : kThn φ io s Q (.next ρ) = wT φ io s ρ Q := rfl
theorem kThn_ret {t : T} : kThn φ io s Q (.ret t ρ) = Q (.ret t ρ) := rfl
theorem kThn_brk : kThn φ io s Q (.brk ρ) = Q (.brk ρ) := rfl
theorem kThn_cont : kThn φ io s Q (.cont ρ) = Q (.cont ρ) := rfl
theorem wQ_thn {o : O} : wQ (o.thn fun ρ2 => evS φ io s ρ2) Q = wQ o (kThn φ io s Q) := by cases o <;> rfl
theorem wT_nil : wT φ io .nil ρ Q = Q (.next ρ) := rfl
theorem wT_retN : wT φ io .retN ρ Q = Q (.ret (.leaf .none) ρ) := rfl
theorem wT_brk : wT φ io .brk ρ Q = Q (.brk ρ) := rfl
theorem wT_cont : wT φ io .cont ρ Q = Q (.cont ρ) := rfl
theorem wT_pass : wT φ io (.pass s) ρ Q = wT φ io s ρ Q := rfl
def kSet (φ : Nat → List T → FR) (io : List Nat) (k : Nat) (s : S) (Q : O → Prop) (t : T) (ρ : Rho) : Prop := wO (setSlot io k t ρ) fun ρ2 => wT φ io s ρ2 Q
theorem wT_set {k : Nat} {e : E} : wT φ io (.set k e s) ρ Q = wE φ .mv e ρ (kSet φ io k s Q) := by
  unfold wT wE
  rw [evS]
  refine wQ_go fun t ρ1 => ?_
  unfold kSet
  cases setSlot io k t ρ1 <;> rfl
def kAsg (φ : Nat → List T → FR) (io : List Nat) (p : Pat) (s : S) (Q : O → Prop) (t : T) (ρ : Rho) : Prop := wO (leafOf t) fun d => wO (bindIo io p d ρ) fun ρ2 => wT φ io s ρ2 Q
theorem wT_asg {p : Pat} {e : E} : wT φ io (.asg p e s) ρ Q = wE φ .rd e ρ (kAsg φ io p s Q) := by
  unfold wT wE
  rw [evS]
  refine wQ_go fun t ρ1 => ?_
  unfold kAsg
  cases t with
  | leaf d =>
    simp only [leafOf, wO_some]
    cases bindIo io p d ρ1 <;> rfl
  | _ => rfl
def kPar (φ : Nat → List T → FR) (io : List Nat) (ks : List Nat) (s : S) (Q : O → Prop) (ts : List T) (ρ : Rho) : Prop := wO (setSlots io ks ts ρ) fun ρ2 => wT φ io s ρ2 Q
theorem wT_par {ks : List Nat} {es : Es} : wT φ io (.par ks es s) ρ Q = wEs φ es ρ (kPar φ io ks s Q) := by
  unfold wT wEs
  rw [evS]
  refine wQ_go fun t ρ1 => ?_
  unfold kPar
  cases setSlots io ks t ρ1 <;> rfl
def kRet (Q : O → Prop) (t : T) (ρ : Rho) : Prop := Q (.ret t ρ)
theorem wT_ret {e : E} : wT φ io (.ret e) ρ Q = wE φ .mv e ρ (kRet Q) := by
  unfold wT wE
  rw [evS]
  exact wQ_go fun t ρ1 => rfl
def kExpr (φ : Nat → List T → FR) (io : List Nat) (s : S) (Q : O → Prop) (t : T) (ρ : Rho) : Prop := wT φ io s ρ Q
theorem wT_expr {e : E} : wT φ io (.expr e s) ρ Q = wE φ .rd e ρ (kExpr φ io s Q) := by
  unfold wT wE
  rw [evS]
  exact wQ_go fun t ρ1 => rfl
def kIf (φ : Nat → List T → FR) (io : List Nat) (a b s : S) (Q : O → Prop) (k : Bool) (ρ : Rho) : Prop := if k = true then wT φ io a ρ (kThn φ io s Q) else wT φ io b ρ (kThn φ io s Q)
theorem wT_ite {c : E} {a b : S} : wT φ io (.ite c a b s) ρ Q = wC φ c ρ (kIf φ io a b s Q) := by
  unfold wT wC
  rw [evS]
  refine wQ_go fun k ρ1 => ?_
  rw [wQ_thn]
  unfold kIf
  cases k <;> rfl
def kMut (φ : Nat → List T → FR) (io : List Nat) (k : Nat) (st : List Step) (mu : Mu) (pu : Bool) (s : S) (Q : O → Prop) (us : List T) (ρ : Rho) : Prop :=
  wO (getSlot ρ k) fun t => wO (stepsD ρ st) fun ds => wO (onPath (mutT mu us) ds t) fun r => (st.isEmpty || pu) = true ∧ wT φ io s (ρ.set k (some r.2)) Q
theorem wT_mut {k : Nat} {st : List Step} {mu : Mu} {es : Es} : wT φ io (.mut k st mu es s) ρ Q = (isLst ρ k st = true ∧ wEs φ es ρ (kMut φ io k st mu (pureEs es) s Q)) := by
  unfold wT wEs
  rw [evS]
  by_cases h : isLst ρ k st = true
  · rw [if_pos h]
    refine (wQ_go (K := kMut φ io k st mu (pureEs es) s Q) fun us ρ1 => ?_).trans (propext ⟨fun z => ⟨h, z⟩, fun z => z.2⟩)
    unfold kMut
    cases getSlot ρ1 k with
    | none => rfl
    | some t =>
      simp only [wO_some]
      cases stepsD ρ1 st with
      | none => rfl
      | some ds =>
        simp only [wO_some]
        cases onPath (mutT mu us) ds t with
        | none => rfl
        | some r =>
          simp only [wO_some]
          by_cases h2 : (st.isEmpty || pureEs es) = true
          · rw [if_pos h2, h2]; simp [wT]
          · rw [if_neg h2]; simp [wQ, h2]
  · rw [if_neg h]
    simp [wQ, h]
def kExt (φ : Nat → List T → FR) (io : List Nat) (k : Nat) (st : List Step) (pu : Bool) (s : S) (Q : O → Prop) (u : T) (ρ : Rho) : Prop :=
  wO (seqL u) fun xs => wO (getSlot ρ k) fun t => wO (stepsD ρ st) fun ds => wO (onPath (extT xs) ds t) fun r => (st.isEmpty || pu) = true ∧ wT φ io s (ρ.set k (some r.2)) Q
where seqL (u : T) : Option (List D) := match u.flat with | some (.list xs) => some xs | _ => none
theorem wT_ext {k : Nat} {st : List Step} {e : E} : wT φ io (.ext k st e s) ρ Q = (isLst ρ k st = true ∧ wE φ .rd e ρ (kExt φ io k st (pureE e) s Q)) := by
  unfold wT wE
  rw [evS]
  by_cases h : isLst ρ k st = true
  · rw [if_pos h]
    refine (wQ_go (K := kExt φ io k st (pureE e) s Q) fun u ρ1 => ?_).trans (propext ⟨fun z => ⟨h, z⟩, fun z => z.2⟩)
    unfold kExt kExt.seqL
    cases u.flat with
    | none => rfl
    | some d =>
      cases d with
      | list xs =>
        simp only [wO_some]
        cases getSlot ρ1 k with
        | none => rfl
        | some t =>
          simp only [wO_some]
          cases stepsD ρ1 st with
          | none => rfl
          | some ds =>
            simp only [wO_some]
            cases onPath (extT xs) ds t with
            | none => rfl
            | some r =>
              simp only [wO_some]
              by_cases h2 : (st.isEmpty || pureE e) = true
              · rw [if_pos h2, h2]; simp [wT]
              · rw [if_neg h2]; simp [wQ, h2]
      | _ => rfl
  · rw [if_neg h]
    simp [wQ, h]
def kStore2 (φ : Nat → List T → FR) (io : List Nat) (k : Nat) (st : List Step) (pu : Bool) (u : T) (s : S) (Q : O → Prop) (j : T) (ρ : Rho) : Prop :=
  wO (getSlot ρ k) fun t => wO (stepsD ρ st) fun ds => wO (leafOf j) fun d => wO (onPath (storeT d u) ds t) fun r => (st.isEmpty || pu) = true ∧ wT φ io s (ρ.set k (some r.2)) Q
def kStore (φ : Nat → List T → FR) (io : List Nat) (k : Nat) (st : List Step) (i : E) (s : S) (Q : O → Prop) (u : T) (ρ : Rho) : Prop := isCon ρ k st = true ∧ wE φ .rd i ρ (kStore2 φ io k st (pureE i) u s Q)
theorem wT_store {k : Nat} {st : List Step} {i e : E} : wT φ io (.store k st i e s) ρ Q = wE φ .mv e ρ (kStore φ io k st i s Q) := by
  unfold wT wE
  rw [evS]
  refine wQ_go fun u ρ1 => ?_
  unfold kStore
  by_cases h : isCon ρ1 k st = true
  · rw [if_pos h]
    refine (wQ_go (K := kStore2 φ io k st (pureE i) u s Q) fun j ρ2 => ?_).trans (propext ⟨fun z => ⟨h, z⟩, fun z => z.2⟩)
    unfold kStore2
    cases getSlot ρ2 k with
    | none => rfl
    | some t =>
      simp only [wO_some]
      cases stepsD ρ2 st with
      | none => rfl
      | some ds =>
        simp only [wO_some]
        cases leafOf j with
        | none => rfl
        | some d =>
          simp only [wO_some]
          cases onPath (storeT d u) ds t with
          | none => rfl
          | some r =>
            simp only [wO_some]
            by_cases h2 : (st.isEmpty || pureE i) = true
            · rw [if_pos h2, h2]; simp [wT]
            · rw [if_neg h2]; simp [wQ, h2]
  · rw [if_neg h]
    simp [wQ, h]
/-! ### loops -/
noncomputable def forF (φ : Nat → List T → FR) (io : List Nat) (p : Pat) (body : S) (d : D) (ρ : Rho) : O := match bindIo io p d ρ with
  | some ρ3 => evS φ io body ρ3
  | none => .bad
theorem forF_at {p : Pat} {body : S} {d : D} : wQ (forF φ io p body d ρ) Q = wO (bindIo io p d ρ) fun ρ3 => wT φ io body ρ3 Q := by
  unfold forF
  cases bindIo io p d ρ <;> rfl
def kPut (g : Rho → Rho) (Q : O → Prop) (o : O) : Prop := Q (O.map1 g o)
def kFor (φ : Nat → List T → FR) (io : List Nat) (p : Pat) (it : It) (body s : S) (Q : O → Prop) (ds : List D) (ρ : Rho) : Prop := wQ (forM (forF φ (ioIt it ρ ++ io) p body) ds (takeIt it ρ)) (kPut (putIt ρ it) (kThn φ io s Q))
theorem wT_for {p : Pat} {it : It} {body : S} : wT φ io (.for p it body s) ρ Q = wI φ it ρ (kFor φ io p it body s Q) := by
  unfold wT wI
  rw [evS]
  refine wQ_go fun ds ρ1 => ?_
  rw [wQ_thn]
  unfold kFor
  show wQ (O.map1 _ (forM (forF φ (ioIt it ρ1 ++ io) p body) ds (takeIt it ρ1))) _ = _
  cases forM (forF φ (ioIt it ρ1 ++ io) p body) ds (takeIt it ρ1) <;> rfl
/-! ### a def's run -/
def kFr (ts : List T) (Q : T → List (Option T) → Prop) : O → Prop
  | .next ρ => allBack ts (outsOf ts 0 ρ) = true ∧ Q (.leaf .none) (outsOf ts 0 ρ)
  | .ret t ρ => allBack ts (outsOf ts 0 ρ) = true ∧ Q t (outsOf ts 0 ρ)
  | _ => False
theorem wF_run {tb : Nat → Option Fn} {n f np nv : Nat} {body : S} {ts : List T} {Q : T → List (Option T) → Prop} (h : tb f = some ⟨np, nv, body⟩) (hl : ts.length = np) :
    wF (run tb (n + 1) f ts) Q = wT (run tb n) (ioOf 0 ts) body (ts.map some ++ List.replicate (nv - np) none) (kFr ts Q) := by
  show wF (match tb f with | some d => if ts.length = d.np then frOf ts (evS (run tb n) (ioOf 0 ts) d.body (ts.map some ++ List.replicate (d.nv - d.np) none)) else .bad | none => .bad) Q = _
  rw [h]
  simp only
  rw [if_pos hl]
  unfold wT
  cases evS (run tb n) (ioOf 0 ts) body (ts.map some ++ List.replicate (nv - np) none) with
  | next ρ =>
    show wF (if allBack ts (outsOf ts 0 ρ) = true then _ else _) Q = kFr ts Q (.next ρ)
    unfold kFr
    by_cases hb : allBack ts (outsOf ts 0 ρ) = true
    · rw [if_pos hb]; exact propext ⟨fun z => ⟨hb, z⟩, fun z => z.2⟩
    · rw [if_neg hb]; exact propext ⟨fun z => z.elim, fun z => hb z.1⟩
  | ret t ρ =>
    show wF (if allBack ts (outsOf ts 0 ρ) = true then _ else _) Q = kFr ts Q (.ret t ρ)
    unfold kFr
    by_cases hb : allBack ts (outsOf ts 0 ρ) = true
    · rw [if_pos hb]; exact propext ⟨fun z => ⟨hb, z⟩, fun z => z.2⟩
    · rw [if_neg hb]; exact propext ⟨fun z => z.elim, fun z => hb z.1⟩
  | exc x ρ =>
    show wF (if allBack ts (outsOf ts 0 ρ) = true then _ else _) Q = False
    by_cases hb : allBack ts (outsOf ts 0 ρ) = true
    · rw [if_pos hb]; rfl
    · rw [if_neg hb]; rfl
  | brk ρ => rfl
  | cont ρ => rfl
  | bad => rfl
theorem wF_imp {fr : FR} {Q Q' : T → List (Option T) → Prop} (h : wF fr Q) (k : ∀ t outs, Q t outs → Q' t outs) : wF fr Q' := by
  cases fr <;> first | exact k _ _ h | exact h
theorem wF_eq {fr : FR} {t : T} {outs : List (Option T)} (h : wF fr fun t' o' => t' = t ∧ o' = outs) : fr = .ret t outs := by
  cases fr with
  | ret t' o' => obtain ⟨e1, e2⟩ := h; subst e1 e2; rfl
  | exc x o => exact h.elim
  | bad => exact h.elim
end
end Pz
/-! P4c: symbolic runs: loops. -/
namespace Pz
open PySem
theorem wR_mk {α : Type} {r : R α} {a : α} {ρ : Rho} {K : α → Rho → Prop} (h : r = .ok a ρ) (k : K a ρ) : wR r K := by subst h; exact k
theorem compM_eq {f : D → Rho → R (Option T)} {g : D → Option T} {ρ : Rho} : ∀ (ds : List D), (∀ d, d ∈ ds → f d ρ = .ok (g d) ρ) → compM f ds ρ = .ok (ds.filterMap g) ρ
  | [], _ => rfl
  | d :: ds, h => by
    rw [compM, h d (List.mem_cons_self ..)]
    simp only [R.bind]
    rw [compM_eq ds (fun e he => h e (List.mem_cons_of_mem _ he))]
    simp only [List.filterMap_cons]
    cases g d <;> rfl
theorem compM_pure {f : D → Rho → R (Option T)} {ρ : Rho} {ds : List D} {K : List T → Rho → Prop} (g : D → Option T) (h : ∀ d, d ∈ ds → wR (f d ρ) (kEq (g d) ρ)) (k : K (ds.filterMap g) ρ) : wR (compM f ds ρ) K :=
  wR_mk (compM_eq ds fun d hd => wR_eq (h d hd)) k
/-- a comprehension that keeps something true of what is told so far and of the slots -/
theorem compM_inv {f : D → Rho → R (Option T)} {K : List T → Rho → Prop} (I : Nat → List T → Rho → Prop) : ∀ (ds : List D) (i : Nat) (ts : List T) (ρ : Rho), I i ts ρ →
    (∀ j d ts ρ, ds[j]? = some d → I (i + j) ts ρ → wR (f d ρ) (fun o ρ' => I (i + j + 1) (ts ++ o.toList) ρ')) →
    (∀ ts' ρ', I (i + ds.length) (ts ++ ts') ρ' → K ts' ρ') → wR (compM f ds ρ) K
  | [], i, ts, ρ, h0, _, he => by
    show K [] ρ
    exact he [] ρ (by simpa using h0)
  | d :: ds, i, ts, ρ, h0, hs, he => by
    rw [compM, wR_bind]
    refine wR_imp (hs 0 d ts ρ rfl (by simpa using h0)) fun o ρ1 h1 => ?_
    rw [wR_bind]
    have h1' : I (i + 1) (ts ++ o.toList) ρ1 := by simpa using h1
    refine compM_inv (K := _) I ds (i + 1) (ts ++ o.toList) ρ1 h1' (fun j d' ts ρ hd hi => ?_) (fun ts' ρ' hi => ?_)
    · have := hs (j + 1) d' ts ρ (by simpa using hd) (by rwa [Nat.add_assoc, Nat.add_comm 1 j] at hi)
      rwa [Nat.add_assoc i 1 j, Nat.add_comm 1 j]
    · show K _ ρ'
      refine he _ ρ' ?_
      have e : i + (d :: ds).length = i + 1 + ds.length := by simp [Nat.add_assoc, Nat.add_comm 1]
      rw [e]
      cases o with
      | none => simpa using hi
      | some t => simpa using hi
/-- the end of a turn -/
def kTurn (I : Rho → Prop) (Q : O → Prop) : O → Prop
  | .next ρ => I ρ
  | .cont ρ => I ρ
  | .brk ρ => Q (.next ρ)
  | .ret t ρ => Q (.ret t ρ)
  | _ => False
theorem kTurn_next {I : Rho → Prop} {Q : O → Prop} {ρ : Rho} : kTurn I Q (.next ρ) = I ρ := rfl
theorem kTurn_cont {I : Rho → Prop} {Q : O → Prop} {ρ : Rho} : kTurn I Q (.cont ρ) = I ρ := rfl
theorem kTurn_brk {I : Rho → Prop} {Q : O → Prop} {ρ : Rho} : kTurn I Q (.brk ρ) = Q (.next ρ) := rfl
theorem kTurn_ret {I : Rho → Prop} {Q : O → Prop} {t : T} {ρ : Rho} : kTurn I Q (.ret t ρ) = Q (.ret t ρ) := rfl
theorem forM_inv0 {f : D → Rho → O} {Q : O → Prop} (I : Nat → Rho → Prop) : ∀ (ds : List D) (i : Nat) (ρ : Rho), I i ρ →
    (∀ j d ρ, ds[j]? = some d → I (i + j) ρ → wQ (f d ρ) (kTurn (I (i + j + 1)) Q)) → (∀ ρ, I (i + ds.length) ρ → Q (.next ρ)) → wQ (forM f ds ρ) Q
  | [], i, ρ, h0, _, he => he ρ h0
  | d :: ds, i, ρ, h0, hs, he => by
    have h1 := hs 0 d ρ rfl h0
    have next : ∀ ρ1, I (i + 0 + 1) ρ1 → wQ (forM f ds ρ1) Q := fun ρ1 hi => by
      refine forM_inv0 I ds (i + 1) ρ1 hi (fun j d' ρ hd hj => ?_) (fun ρ hj => he ρ ?_)
      · have := hs (j + 1) d' ρ (by simpa using hd) (by rwa [Nat.add_assoc, Nat.add_comm 1 j] at hj)
        rwa [Nat.add_assoc i 1 j, Nat.add_comm 1 j]
      · have e : i + (d :: ds).length = i + 1 + ds.length := by simp [Nat.add_assoc, Nat.add_comm 1]
        rw [e]; exact hj
    rw [forM]
    cases hf : f d ρ with
    | next ρ1 => rw [hf] at h1; exact next ρ1 h1
    | cont ρ1 => rw [hf] at h1; exact next ρ1 h1
    | brk ρ1 => rw [hf] at h1; exact h1
    | ret t ρ1 => rw [hf] at h1; exact h1
    | exc x ρ1 => rw [hf] at h1; exact h1.elim
    | bad => rw [hf] at h1; exact h1.elim
theorem forM_inv {f : D → Rho → O} {Q : O → Prop} {ds : List D} {ρ : Rho} (I : Nat → Rho → Prop) (h0 : I 0 ρ)
    (hs : ∀ j d ρ, ds[j]? = some d → I j ρ → wQ (f d ρ) (kTurn (I (j + 1)) Q)) (he : ∀ ρ, I ds.length ρ → Q (.next ρ)) : wQ (forM f ds ρ) Q := by
  refine forM_inv0 I ds 0 ρ h0 (fun j d ρ hd hj => ?_) (fun ρ hj => he ρ ?_)
  · rw [Nat.zero_add] at hj ⊢; exact hs j d ρ hd hj
  · rwa [Nat.zero_add] at hj
theorem wF_ret {t : T} {outs : List (Option T)} {Q : T → List (Option T) → Prop} : wF (.ret t outs) Q = Q t outs := rfl
end Pz
/-! P4d: symbolic runs: the constructs that were lacking. -/
namespace Pz
open PySem
section
variable {φ : Nat → List T → FR} {m : M} {ρ : Rho} {K : T → Rho → Prop} {C : Bool → Rho → Prop}
theorem wR_iff {α : Type} {c : Prop} [Decidable c] {a : α} {ρ : Rho} {L : α → Rho → Prop} : wR (if c then .ok a ρ else .bad) L = (c ∧ L a ρ) := by
  by_cases h : c
  · rw [if_pos h]; exact propext ⟨fun z => ⟨h, z⟩, fun z => z.2⟩
  · rw [if_neg h]; exact propext ⟨fun z => z.elim, fun z => h z.1⟩
def kCh3 (c' : Cm) (y : T) (K : Bool → Rho → Prop) (z : T) (ρ : Rho) : Prop := wO (cmpOp c' y z) fun k => K k ρ
def kChB (φ : Nat → List T → FR) (c' : Cm) (d : E) (K : Bool → Rho → Prop) (y : T) (ρ : Rho) (u : Bool) : Prop := if u = true then wE φ .rd d ρ (kCh3 c' y K) else K false ρ
def kCh2 (φ : Nat → List T → FR) (c c' : Cm) (d : E) (x : T) (K : Bool → Rho → Prop) (y : T) (ρ : Rho) : Prop := (x.isLeaf = true ∧ y.isLeaf = true) ∧ wO (cmpOp c x y) (kChB φ c' d K y ρ)
def kCh (φ : Nat → List T → FR) (c c' : Cm) (b d : E) (K : Bool → Rho → Prop) (x : T) (ρ : Rho) : Prop := wE φ .rd b ρ (kCh2 φ c c' d x K)
theorem wE_chain {c c' : Cm} {a b d : E} : wE φ m (.chain c c' a b d) ρ K = wE φ .rd a ρ (kCh φ c c' b d (kB K)) := by
  unfold wE
  rw [ev]
  refine wR_bindK fun x ρ1 => ?_
  show _ = wR _ _
  refine wR_bindK fun y ρ2 => ?_
  rw [wR_if]
  unfold kCh2 kChB
  cases cmpOp c x y with
  | none => rfl
  | some k =>
    cases k with
    | false => rfl
    | true =>
      simp only [wO_some, if_true]
      congr 1
      unfold wE
      refine wR_bindK fun z ρ3 => ?_
      unfold kCh3
      cases cmpOp c' y z <;> rfl
theorem wC_chain {c c' : Cm} {a b d : E} : wC φ (.chain c c' a b d) ρ C = wE φ .rd a ρ (kCh φ c c' b d C) := by
  rw [wC_def, wE_chain]
  rfl
def kDct (ks : List Key) (K : T → Rho → Prop) (ts : List T) (ρ : Rho) : Prop := (ts.length = ks.length ∧ ts.length ≤ 15 ∧ ks.Nodup) ∧ K (.dct (ks.zip ts)) ρ
theorem wE_dct (h : m ≠ .cd) {ks : List Key} {es : Es} : wE φ m (.dct ks es) ρ K = wEsO φ es ρ (kDct ks K) := by
  unfold wE wEsO
  rw [ev, finR h]
  exact wR_bindK fun ts ρ1 => wR_iff
def kVAnd2 (K : T → Rho → Prop) (y : T) (ρ : Rho) : Prop := y.isLeaf = true ∧ K y ρ
def kVAnd (φ : Nat → List T → FR) (b : E) (K : T → Rho → Prop) (x : T) (ρ : Rho) : Prop := wO (leafOf x) fun d => wO x.truth fun k => if k = true then wE φ .rd b ρ (kVAnd2 K) else K (.leaf d) ρ
theorem wE_and (h : m ≠ .cd) {a b : E} : wE φ m (.and a b) ρ K = wE φ .rd a ρ (kVAnd φ b K) := by
  unfold wE
  rw [ev, if_neg h]
  refine wR_bindK fun x ρ1 => ?_
  unfold kVAnd
  cases x with
  | leaf d =>
    simp only [leafOf, wO_some]
    cases T.truth (.leaf d) with
    | none => rfl
    | some k =>
      cases k with
      | false => rfl
      | true =>
        simp only [wO_some, if_true]
        unfold wE
        exact wR_bindK fun y ρ2 => wR_iff
  | _ => rfl
def kVOr (φ : Nat → List T → FR) (b : E) (K : T → Rho → Prop) (x : T) (ρ : Rho) : Prop := wO (leafOf x) fun d => wO x.truth fun k => if k = true then K (.leaf d) ρ else wE φ .rd b ρ (kVAnd2 K)
theorem wE_or (h : m ≠ .cd) {a b : E} : wE φ m (.or a b) ρ K = wE φ .rd a ρ (kVOr φ b K) := by
  unfold wE
  rw [ev, if_neg h]
  refine wR_bindK fun x ρ1 => ?_
  unfold kVOr
  cases x with
  | leaf d =>
    simp only [leafOf, wO_some]
    cases T.truth (.leaf d) with
    | none => rfl
    | some k =>
      cases k with
      | true => rfl
      | false =>
        simp only [wO_some, Bool.false_eq_true, if_false]
        unfold wE
        exact wR_bindK fun y ρ2 => wR_iff
  | _ => rfl
def kVNot (K : T → Rho → Prop) (x : T) (ρ : Rho) : Prop := wO x.truth fun k => K (.leaf (.bool (!k))) ρ
theorem wE_not (h : m ≠ .cd) {a : E} : wE φ m (.not a) ρ K = wE φ .rd a ρ (kVNot K) := by
  unfold wE
  rw [ev, if_neg h]
  refine wR_bindK fun x ρ1 => ?_
  unfold kVNot
  cases x.truth <;> rfl
/-! slices -/
def kOpt (K : Option Int → Rho → Prop) (t : T) (ρ : Rho) : Prop := wO (asInt t) fun i => K (some i) ρ
def wOp (φ : Nat → List T → FR) (e : E) (ρ : Rho) (K : Option Int → Rho → Prop) : Prop := wR (optR (isNop e) (ev φ .rd e ρ) ρ) K
theorem wOp_nop {K : Option Int → Rho → Prop} : wOp φ .nop ρ K = K none ρ := rfl
theorem wOp_e {e : E} {K : Option Int → Rho → Prop} (h : isNop e = false) : wOp φ e ρ K = wE φ .rd e ρ (kOpt K) := by
  unfold wOp optR wE
  rw [h]
  simp only [Bool.false_eq_true, if_false]
  refine wR_bindK fun t ρ1 => ?_
  unfold kOpt
  cases asInt t <;> rfl
def kSl3 (a : E) (pu : Bool) (t : T) (l : Option Int) (K : T → Rho → Prop) (h : Option Int) (ρ : Rho) : Prop := wO (opnd a t ρ pu) fun x => wO (sliceT x l h) fun u => K u ρ
def kSl2 (φ : Nat → List T → FR) (a hi : E) (pu : Bool) (t : T) (K : T → Rho → Prop) (l : Option Int) (ρ : Rho) : Prop := wOp φ hi ρ (kSl3 a pu t l K)
def kSl (φ : Nat → List T → FR) (a lo hi : E) (K : T → Rho → Prop) (t : T) (ρ : Rho) : Prop := wOp φ lo ρ (kSl2 φ a hi ((pureE lo || isNop lo) && (pureE hi || isNop hi)) t K)
theorem wE_slice (h : m ≠ .cd) {a lo hi : E} : wE φ m (.slice a lo hi) ρ K = wE φ .rd a ρ (kSl φ a lo hi K) := by
  unfold wE
  rw [ev, finR h]
  refine wR_bindK fun t ρ1 => ?_
  unfold kSl wOp
  refine wR_bindK fun l ρ2 => ?_
  unfold kSl2 wOp
  refine wR_bindK fun i ρ3 => ?_
  unfold kSl3
  cases opnd a t ρ3 ((pureE lo || isNop lo) && (pureE hi || isNop hi)) with
  | none => rfl
  | some x => exact wR_of
def kRev (K : T → Rho → Prop) (t : T) (ρ : Rho) : Prop := wO (kExt.seqL t) fun xs => K (.lst (xs.reverse.map .leaf)) ρ
theorem wE_rev (h : m ≠ .cd) {a : E} : wE φ m (.rev a) ρ K = wE φ .rd a ρ (kRev K) := by
  unfold wE
  rw [ev, finR h]
  refine wR_bindK fun t ρ1 => ?_
  unfold kRev kExt.seqL
  cases t.flat with
  | none => rfl
  | some d => cases d <;> rfl
def kPop (k : Nat) (st : List Step) (ok : Bool) (K : T → Rho → Prop) (o : Option Int) (ρ : Rho) : Prop :=
  wO (getSlot ρ k) fun t => wO (stepsD ρ st) fun ds => wO (onPath (popT o) ds t) fun r => (ok = true ∧ r.1.isLeaf = true) ∧ K r.1 (ρ.set k (some r.2))
theorem wE_pop (h : m ≠ .cd) {k : Nat} {st : List Step} {i : E} : wE φ m (.pop k st i) ρ K = (isLst ρ k st = true ∧ wOp φ i ρ (kPop k st (st.isEmpty || isNop i || pureE i) K)) := by
  unfold wE
  rw [ev, finR h, wR_if]
  congr 1
  unfold wOp
  refine wR_bindK fun o ρ1 => ?_
  unfold kPop
  cases getSlot ρ1 k with
  | none => rfl
  | some t =>
    simp only [wO_some]
    cases stepsD ρ1 st with
    | none => rfl
    | some ds =>
      simp only [wO_some]
      cases onPath (popT o) ds t with
      | none => rfl
      | some r => exact wR_iff
def kCallK2 (φ : Nat → List T → FR) (f : Nat) (pm : List Nat) (ts : List T) (K : T → Rho → Prop) (us : List T) (ρ : Rho) : Prop := wO (leaves ts) fun ds => wO (leaves us) fun es => wO (permL pm (ds ++ es)) fun as => wF (φ f (as.map .leaf)) fun t _ => K t ρ
def kCallK (φ : Nat → List T → FR) (f : Nat) (ws : Es) (pm : List Nat) (K : T → Rho → Prop) (ts : List T) (ρ : Rho) : Prop := wEs φ ws ρ (kCallK2 φ f pm ts K)
theorem wE_callK (h : m ≠ .cd) {f : Nat} {es ws : Es} {ks : List Str} {pm : List Nat} : wE φ m (.callK f es ws ks pm) ρ K = wEs φ es ρ (kCallK φ f ws pm K) := by
  unfold wE wEs
  rw [ev, finR h]
  refine wR_bindK fun ts ρ1 => ?_
  unfold kCallK wEs
  refine wR_bindK fun us ρ2 => ?_
  unfold kCallK2
  cases leaves ts with
  | none => rfl
  | some ds =>
    simp only [wO_some]
    cases leaves us with
    | none => rfl
    | some es =>
      simp only [wO_some]
      cases permL pm (ds ++ es) with
      | none => rfl
      | some as =>
        simp only [wO_some]
        cases φ f (as.map .leaf) <;> rfl
end
end Pz
/-! P4e: symbolic runs: slots whose content is not known, and ints. -/
namespace Pz
open PySem
/-- the slot may be bound: empty, or a leaf -/
def slotOk : Option (Option T) → Bool
  | some none => true
  | some (some (.leaf _)) => true
  | _ => false
theorem slotOk_none : slotOk (some none) = true := rfl
theorem slotOk_leaf {d : D} : slotOk (some (some (.leaf d))) = true := rfl
theorem bindP_v {k : Nat} {d : D} {ρ : Rho} : bindP (.v k) d ρ = if slotOk ρ[k]? = true then some (ρ.set k (some (.leaf d))) else none := by
  rw [bindP]
  cases ρ[k]? with
  | none => rfl
  | some o =>
    cases o with
    | none => rfl
    | some t => cases t <;> rfl
theorem bindP_t {ps : List Pat} {ds : List D} {ρ : Rho} : bindP (.tup ps) (.tuple ds) ρ = bindPs ps ds ρ := by rw [bindP]
theorem bindPs_nil {ρ : Rho} : bindPs [] [] ρ = some ρ := by rw [bindPs]
theorem bindPs_cons {p : Pat} {ps : List Pat} {d : D} {ds : List D} {ρ : Rho} : bindPs (p :: ps) (d :: ds) ρ = match bindP p d ρ with | some ρ' => bindPs ps ds ρ' | none => none := by rw [bindPs]; try (cases bindP p d ρ <;> rfl)
theorem wipeR_nil {ρ : Rho} : wipeR [] ρ = some ρ := rfl
theorem wipeR_cons {k : Nat} {ks : List Nat} {ρ : Rho} : wipeR (k :: ks) ρ = if slotOk ρ[k]? = true then wipeR ks (ρ.set k none) else none := by
  rw [wipeR]
  cases h : ρ[k]? with
  | none => rfl
  | some o =>
    cases o with
    | none =>
      have : ρ.set k none = ρ := by
        apply List.ext_getElem?
        intro i
        rw [List.getElem?_set]
        by_cases e : k = i
        · subst e
          rw [if_pos rfl, h]
          obtain ⟨hl, _⟩ := List.getElem?_eq_some_iff.1 h
          rw [if_pos hl]
        · rw [if_neg e]
      show wipeR ks ρ = if slotOk (some none) = true then wipeR ks (ρ.set k none) else none
      rw [slotOk_none, if_pos rfl, this]
    | some t => cases t <;> rfl
theorem eqD_int {a b : Int} : eqD (.int a) (.int b) = some (decide (a = b)) := by
  unfold eqD
  rw [if_pos ⟨rfl, rfl⟩]
  congr 1
theorem cmp_eqI {a b : Int} : cmpOp .eq (.leaf (.int a)) (.leaf (.int b)) = some (decide (a = b)) := eqD_int
theorem cmp_neI {a b : Int} : cmpOp .ne (.leaf (.int a)) (.leaf (.int b)) = some (!decide (a = b)) := by
  show (match eqD (.int a) (.int b) with | some k => some (!k) | none => none) = _
  rw [eqD_int]
theorem cmp_ltI {a b : Int} : cmpOp .lt (.leaf (.int a)) (.leaf (.int b)) = some (decide (a < b)) := rfl
theorem cmp_gtI {a b : Int} : cmpOp .gt (.leaf (.int a)) (.leaf (.int b)) = some (decide (b < a)) := rfl
theorem cmp_leI {a b : Int} : cmpOp .le (.leaf (.int a)) (.leaf (.int b)) = some (decide (a ≤ b)) := rfl
theorem cmp_geI {a b : Int} : cmpOp .ge (.leaf (.int a)) (.leaf (.int b)) = some (decide (b ≤ a)) := rfl
theorem bin_addI {a b : Int} : binOp .add (.leaf (.int a)) (.leaf (.int b)) = some (.leaf (.int (a + b))) := rfl
theorem bin_subI {a b : Int} : binOp .sub (.leaf (.int a)) (.leaf (.int b)) = some (.leaf (.int (a - b))) := rfl
theorem bin_mulI {a b : Int} (h : mulOk a b = true) : binOp .mul (.leaf (.int a)) (.leaf (.int b)) = some (.leaf (.int (a * b))) := by
  show (match (if mulOk a b = true then some (a * b) else none) with | some k => some (T.leaf (.int k)) | none => none) = _
  rw [if_pos h]
theorem bin_modI {a b : Int} (h : 0 < b) : binOp .mod (.leaf (.int a)) (.leaf (.int b)) = some (.leaf (.int (a % b))) := by
  show (match (if 0 < b then some (a % b) else none) with | some k => some (T.leaf (.int k)) | none => none) = _
  rw [if_pos h]
theorem bin_divI {a b : Int} (h : divOk b = true) : binOp .fdiv (.leaf (.int a)) (.leaf (.int b)) = some (.leaf (.int (a / b))) := by
  show (match (if divOk b = true then some (a / b) else none) with | some k => some (T.leaf (.int k)) | none => none) = _
  rw [if_pos h]
theorem mulOk_r {a b : Int} (h : b.natAbs < 2 ^ 63) : mulOk a b = true := by
  unfold mulOk; simp [h]
theorem mulOk_l {a b : Int} (h : a.natAbs < 2 ^ 63) : mulOk a b = true := by
  unfold mulOk; simp [h]
def tInts (ns : List Int) : List T := ns.map fun n => .leaf (.int n)
theorem leaves_ints (ns : List Int) : leaves (tInts ns) = some (ns.map .int) := by
  induction ns with
  | nil => rfl
  | cons n r ih => simp only [tInts, List.map_cons, leaves] at ih ⊢; rw [ih]
theorem tInts_len (ns : List Int) : (tInts ns).length = ns.length := by unfold tInts; exact List.length_map ..
theorem len_lst {ts : List T} : fun1 .len (.lst ts) = some (.leaf (.int ts.length)) := rfl
theorem len_tup {ds : List D} : fun1 .len (.leaf (.tuple ds)) = some (.leaf (.int ds.length)) := rfl
theorem tup_lst {ds : List D} : fun1 .tuple (.lst (ds.map .leaf)) = some (.leaf (.tuple ds)) := by
  show (match (match leaves (ds.map .leaf) with | some ds => some (PyData.list ds) | none => none) with | some (.list xs) => some (T.leaf (.tuple xs)) | _ => none) = _
  rw [leaves_map]
theorem enum_get : ∀ (xs : List D) (n j : Nat), (enumFrom n xs)[j]? = xs[j]?.map fun x => .tuple [.int ((n + j : Nat) : Int), x]
  | [], n, j => by simp [enumFrom]
  | x :: r, n, 0 => by simp [enumFrom]
  | x :: r, n, j + 1 => by
    rw [enumFrom, List.getElem?_cons_succ, List.getElem?_cons_succ, enum_get r (n + 1) j]
    congr 1
    funext y
    rw [Nat.add_assoc, Nat.add_comm 1 j]
theorem enum_len : ∀ (xs : List D) (n : Nat), (enumFrom n xs).length = xs.length
  | [], n => rfl
  | x :: r, n => by rw [enumFrom, List.length_cons, List.length_cons, enum_len r (n + 1)]
def isAtom : D → Bool
  | .none | .bool _ | .int _ => true
  | .str s => PyData.strOk s
  | _ => false
theorem atom_lay {d : D} (h : isAtom d = true) : d.canLay0 = true ∧ d.depth = 0 := by
  cases d <;> first | exact ⟨rfl, rfl⟩ | (simp only [isAtom] at h; simp only [PyData.canLay0, PyData.depth, h, and_self]; done) | (simp only [isAtom, Bool.false_eq_true] at h; done)
theorem atoms_lay : ∀ {xs : List D}, (∀ d, d ∈ xs → isAtom d = true) → PyData.canLayAll0 xs = true ∧ PyData.depthAll xs = 0
  | [], _ => by simp only [PyData.canLayAll0, PyData.depthAll, and_self]
  | x :: r, h => by
    obtain ⟨a, b⟩ := atom_lay (h x (List.mem_cons_self ..))
    obtain ⟨c, d⟩ := atoms_lay (fun y hy => h y (List.mem_cons_of_mem _ hy))
    simp only [PyData.canLayAll0, PyData.depthAll, a, b, c, d, Bool.and_self, Nat.max_self, and_self]
theorem shaped_atom {d : D} (h : isAtom d = true) : SeqAt.shaped d = true := by
  obtain ⟨a, b⟩ := atom_lay h
  unfold SeqAt.shaped; rw [a, b]; rfl
theorem shaped_list {xs : List D} (h : ∀ d, d ∈ xs → isAtom d = true) : SeqAt.shaped (.list xs) = true := by
  obtain ⟨a, b⟩ := atoms_lay h
  unfold SeqAt.shaped; simp only [PyData.canLay0, PyData.depth, a, b]; rfl
theorem shaped_tup {xs : List D} (h : ∀ d, d ∈ xs → isAtom d = true) : SeqAt.shaped (.tuple xs) = true := by
  obtain ⟨a, b⟩ := atoms_lay h
  unfold SeqAt.shaped; simp only [PyData.canLay0, PyData.depth, a, b]; rfl
theorem sum_ints {ns : List Int} : fun1 .sum (.lst (tInts ns)) = some (.leaf (.int ns.sum)) := by
  have h : intsOf (ns.map .int) = some ns := by
    induction ns with
    | nil => rfl
    | cons n r ih => simp only [List.map_cons, intsOf, ih]
  unfold fun1
  simp only [T.flat, leaves_ints, h]
def keepI (p : Int → Bool) : D → Option T
  | .int a => if p a = true then some (.leaf (.int a)) else none
  | _ => none
theorem fm_count {ns : List Int} {p : Int → Bool} : (ns.map PyData.int).filterMap (keepI p) = tInts (ns.filter p) := by
  induction ns with
  | nil => rfl
  | cons n r ih =>
    simp only [List.map_cons, List.filterMap_cons, List.filter_cons, keepI] at ih ⊢
    cases h : p n with
    | true => simp only [if_true, tInts, List.map_cons] at ih ⊢; rw [ih]
    | false => simp only [Bool.false_eq_true, if_false] at ih ⊢; exact ih
end Pz
/-! P4f: symbolic runs: more. -/
namespace Pz
open PySem
theorem szE : sizeLine = 16777216 := by unfold sizeLine; rfl
theorem mvK_of {ρ : Rho} {k : Nat} {K : T → Rho → Prop} {t : T} (h : t.free = false) : mvK ρ k K t = K t (ρ.set k none) := by
  unfold mvK; rw [h]; rfl
theorem keyOf_str {x : Str} : keyOf (.str x) = some (.inr x) := rfl
theorem keyOf_int {i : Int} : keyOf (.int i) = some (.inl i) := rfl
theorem atI_nat {α : Type} {xs : List α} {i : Int} (h : 0 ≤ i) : L2.atI xs i = xs[i.toNat]? := by
  unfold L2.atI L2.ixN
  rw [if_pos h]
  by_cases q : i < xs.length
  · rw [if_pos q]; rfl
  · rw [if_neg q]
    have : xs.length ≤ i.toNat := by omega
    rw [List.getElem?_eq_none this]; rfl
/-- an int out of a list of ints -/
theorem at_ints {ns : List Int} {i : Int} (h0 : 0 ≤ i) (h1 : i < ns.length) : ∃ v, v ∈ ns ∧ idxT (.lst (tInts ns)) (.int i) = some (.leaf (.int v)) := by
  show ∃ v, v ∈ ns ∧ L2.atI (tInts ns) i = some (.leaf (.int v))
  have hl : i.toNat < ns.length := by omega
  rw [atI_nat h0]
  refine ⟨ns[i.toNat], List.getElem_mem hl, ?_⟩
  unfold tInts
  rw [List.getElem?_map, List.getElem?_eq_getElem hl]; rfl
/-- an item out of a tuple -/
theorem at_tup {ds : List D} {i : Int} (h0 : 0 ≤ i) (h1 : i < ds.length) : ∃ d, ds[i.toNat]? = some d ∧ d ∈ ds ∧ idxT (.leaf (.tuple ds)) (.int i) = some (.leaf d) := by
  have hl : i.toNat < ds.length := by omega
  refine ⟨ds[i.toNat], List.getElem?_eq_getElem hl, List.getElem_mem hl, ?_⟩
  show (L2.atI ds i).map T.leaf = _
  rw [atI_nat h0, List.getElem?_eq_getElem hl]; rfl
theorem idx_tupN {ds : List D} {j : Nat} {d : D} (h : ds[j]? = some d) : idxT (.leaf (.tuple ds)) (.int (j : Int)) = some (.leaf d) := by
  show (L2.atI ds (j : Int)).map T.leaf = _
  rw [atI_nat (by omega), Int.toNat_natCast, h]; rfl
/-- pop at a place -/
theorem pop_at {ts : List T} {i : Int} (h0 : 0 ≤ i) (h1 : i < ts.length) (hz : ts.length < 2 ^ 63) : ∃ t, ts[i.toNat]? = some t ∧ popT (some i) (.lst ts) = some (t, .lst (ts.eraseIdx i.toNat)) := by
  have hl : i.toNat < ts.length := by omega
  refine ⟨ts[i.toNat], List.getElem?_eq_getElem hl, ?_⟩
  unfold popT
  simp only
  rw [if_pos (by rw [Nat.ble_eq]; omega)]
  unfold L2.ixN
  rw [if_pos h0, if_pos h1]
  simp only
  rw [List.getElem?_eq_getElem hl]
theorem bin_mulR {a b : Int} (h : -9223372036854775808 < b) (h' : b < 9223372036854775808) : binOp .mul (.leaf (.int a)) (.leaf (.int b)) = some (.leaf (.int (a * b))) := bin_mulI (mulOk_r (by omega))
theorem bin_mulL {a b : Int} (h : -9223372036854775808 < a) (h' : a < 9223372036854775808) : binOp .mul (.leaf (.int a)) (.leaf (.int b)) = some (.leaf (.int (a * b))) := bin_mulI (mulOk_l (by omega))
end Pz
/-! P4g: the continuations once more, without a lambda, so that simp does not walk ahead under a binder. -/
namespace Pz
open PySem
section
variable {φ : Nat → List T → FR} {m : M} {ρ : Rho} {K : T → Rho → Prop} {C : Bool → Rho → Prop} {L : List D → Rho → Prop} {J : Option T → Rho → Prop} {io : List Nat} {Q : O → Prop}
def kAt {α : Type} (K : α → Rho → Prop) (ρ : Rho) (u : α) : Prop := K u ρ
def kGo (φ : Nat → List T → FR) (io : List Nat) (s : S) (Q : O → Prop) (ρ : Rho) : Prop := wT φ io s ρ Q
theorem vE_varR {k : Nat} : wE φ .rd (.var k) ρ K = wO (getSlot ρ k) (kAt K ρ) := wE_varR
def kBin3 (op : Op) (y : T) (K : T → Rho → Prop) (ρ : Rho) (x : T) : Prop := wO (binOp op x y) (kAt K ρ)
theorem vBin2 {op : Op} {a : E} {pb : Bool} {t y : T} : kBin2 op a pb t K y ρ = wO (opnd a t ρ pb) (kBin3 op y K ρ) := rfl
def kNeg2 (K : T → Rho → Prop) (ρ : Rho) (i : Int) : Prop := K (.leaf (.int (-i))) ρ
theorem vNeg {t : T} : kNeg K t ρ = wO (asInt t) (kNeg2 K ρ) := rfl
def kCmp3 (c : Cm) (y : T) (C : Bool → Rho → Prop) (ρ : Rho) (x : T) : Prop := wO (cmpOp c x y) (kAt C ρ)
theorem vCmp2 {c : Cm} {a : E} {pb : Bool} {t y : T} : kCmp2 c a pb t C y ρ = wO (opnd a t ρ pb) (kCmp3 c y C ρ) := rfl
theorem vTru {t : T} : kTru C t ρ = wO t.truth (kAt C ρ) := rfl
def kIdx5 (m : M) (K : T → Rho → Prop) (ρ : Rho) (u : T) : Prop := (m ≠ .mv ∨ u.isLeaf = true) ∧ K u ρ
def kIdx4 (m : M) (x : T) (K : T → Rho → Prop) (ρ : Rho) (d : D) : Prop := wO (idxT x d) (kIdx5 m K ρ)
def kIdx3 (m : M) (y : T) (K : T → Rho → Prop) (ρ : Rho) (x : T) : Prop := wO (leafOf y) (kIdx4 m x K ρ)
theorem vIdx2 {a : E} {pb : Bool} {t y : T} : kIdx2 m a pb t K y ρ = wO (opnd a t ρ pb) (kIdx3 m y K ρ) := rfl
def kTup2 (K : T → Rho → Prop) (ρ : Rho) (ds : List D) : Prop := ds.length ≤ sizeLine ∧ K (.leaf (.tuple ds)) ρ
theorem vTup {ts : List T} : kTup K ts ρ = wO (leaves ts) (kTup2 K ρ) := rfl
def kCall2 (es : Es) (K : T → Rho → Prop) (ρ : Rho) (t : T) (outs : List (Option T)) : Prop := K t (putBack es outs ρ)
theorem vCall {f : Nat} {es : Es} {ts : List T} : kCall φ f es K ts ρ = wF (φ f ts) (kCall2 es K ρ) := rfl
theorem vF1 {f : F1} {t : T} : kF1 f K t ρ = wO (fun1 f t) (kAt K ρ) := rfl
theorem vIsi {y : Ty} {t : T} : kIsi y C t ρ = wO (isTy t y) (kAt C ρ) := rfl
def kIte2 (m : M) (K : T → Rho → Prop) (y : T) (ρ : Rho) : Prop := (y.isLeaf = true ∨ m = .mv) ∧ K y ρ
theorem vIte {a b : E} {k : Bool} : kIte φ m a b K k ρ = if k = true then wE φ m a ρ (kIte2 m K) else wE φ m b ρ (kIte2 m K) := rfl
theorem vF22 {f : F2} {x y : T} : kF22 f x K y ρ = wO (fun2 f x y) (kAt K ρ) := rfl
theorem vSeq {a : E} {t : T} : kSeq a L t ρ = (stands a t = true ∧ wO (itemsS t) (kAt L ρ)) := rfl
/-- a range's items -/
def rngD (i : Int) : List D := (List.range i.toNat).map fun (j : Nat) => .int (j : Int)
theorem rngD_len {i : Int} : (rngD i).length = i.toNat := by unfold rngD; rw [List.length_map, List.length_range]
theorem rngD_get {i : Int} {j : Nat} {d : D} (h : (rngD i)[j]? = some d) : (j : Int) < i ∧ d = .int (j : Int) := by
  unfold rngD at h
  rw [List.getElem?_map] at h
  by_cases q : j < i.toNat
  · rw [List.getElem?_range q] at h
    simp only [Option.map_some, Option.some.injEq] at h
    exact ⟨by omega, h.symm⟩
  · rw [List.getElem?_eq_none (by rw [List.length_range]; omega)] at h
    cases h
def kRng2 (L : List D → Rho → Prop) (ρ : Rho) (i : Int) : Prop := big62 i = true ∧ L (rngD i) ρ
theorem vRng1 {t : T} : kRng1 L t ρ = wO (asInt t) (kRng2 L ρ) := rfl
def kEnum2 (L : List D → Rho → Prop) (ρ : Rho) (ds : List D) : Prop := L (enumFrom 0 ds) ρ
theorem vEnum {a : E} {t : T} : kEnum a L t ρ = (stands a t = true ∧ wO (itemsS t) (kEnum2 L ρ)) := rfl
def kZip6 (L : List D → Rho → Prop) (ρ : Rho) (xs ys : List D) : Prop := L ((xs.zip ys).map fun (x, y) => .tuple [x, y]) ρ
def kZip5 (y' : T) (L : List D → Rho → Prop) (ρ : Rho) (xs : List D) : Prop := wO (items y') (kZip6 L ρ xs)
def kZip4 (a : E) (y' : T) (L : List D → Rho → Prop) (ρ : Rho) (x' : T) : Prop := stands a x' = true ∧ wO (items x') (kZip5 y' L ρ)
def kZip3 (a b : E) (x : T) (L : List D → Rho → Prop) (ρ : Rho) (y' : T) : Prop := stands b y' = true ∧ wO (opnd a x ρ false) (kZip4 a y' L ρ)
theorem vZip2 {a b : E} {x y : T} : kZip2 a b x L y ρ = wO (opnd b y ρ false) (kZip3 a b x L ρ) := rfl
def kComp2 (φ : Nat → List T → FR) (e : E) (p : Pat) (c : E) (ds : List D) (K : List T → Rho → Prop) (ρ2 : Rho) : Prop := wR (compM (compF φ e p c) ds ρ2) K
theorem vComp {e : E} {p : Pat} {it : It} {c : E} {ds : List D} : kComp φ e p it c K ds ρ = ((ioIt it ρ).any (fun k => decide (k ∈ patVs p)) = false ∧ wO (wipeR (patVs p) (takeIt it ρ)) (kComp2 φ e p c ds (kCompE p it ρ K))) := rfl
def kEnd2 (J : Option T → Rho → Prop) (o : Option T) (ρ : Rho) : Prop := J o ρ
theorem vEnd {p : Pat} {t : T} : kEnd p J t ρ = wO (wipeR (patVs p) ρ) (kEnd2 J (some t)) := rfl
theorem vYes {e : E} {p : Pat} {k : Bool} : kYes φ e p J k ρ = if k = true then wE φ .mv e ρ (kEnd p J) else wO (wipeR (patVs p) ρ) (kEnd2 J none) := rfl
def kBd (φ : Nat → List T → FR) (e : E) (p : Pat) (J : Option T → Rho → Prop) (ρ4 : Rho) : Prop := wE φ .mv e ρ4 (kEnd p J)
theorem vompF_nop {e : E} {p : Pat} {d : D} : wR (compF φ e p .nop d ρ) J = wO (bindP p d ρ) (kBd φ e p J) := compF_nop
def kBc (φ : Nat → List T → FR) (c e : E) (p : Pat) (J : Option T → Rho → Prop) (ρ4 : Rho) : Prop := wC φ c ρ4 (kYes φ e p J)
theorem vompF_if {e : E} {p : Pat} {c : E} {d : D} (hn : isNop c = false) : wR (compF φ e p c d ρ) J = wO (bindP p d ρ) (kBc φ c e p J) := compF_if hn
theorem vSet {k : Nat} {s : S} {t : T} : kSet φ io k s Q t ρ = wO (setSlot io k t ρ) (kGo φ io s Q) := rfl
def kAsg2 (φ : Nat → List T → FR) (io : List Nat) (p : Pat) (s : S) (Q : O → Prop) (ρ : Rho) (d : D) : Prop := wO (bindIo io p d ρ) (kGo φ io s Q)
theorem vAsg {p : Pat} {s : S} {t : T} : kAsg φ io p s Q t ρ = wO (leafOf t) (kAsg2 φ io p s Q ρ) := rfl
theorem vPar {ks : List Nat} {s : S} {ts : List T} : kPar φ io ks s Q ts ρ = wO (setSlots io ks ts ρ) (kGo φ io s Q) := rfl
/-- what stands at a path is changed -/
def kMu4 (φ : Nat → List T → FR) (io : List Nat) (k : Nat) (ok : Bool) (s : S) (Q : O → Prop) (ρ : Rho) (r : Unit × T) : Prop := ok = true ∧ wT φ io s (ρ.set k (some r.2)) Q
def kMu3 (φ : Nat → List T → FR) (io : List Nat) (k : Nat) (f : T → Option (Unit × T)) (ok : Bool) (s : S) (Q : O → Prop) (ρ : Rho) (t : T) (ds : List D) : Prop := wO (onPath f ds t) (kMu4 φ io k ok s Q ρ)
def kMu2 (φ : Nat → List T → FR) (io : List Nat) (k : Nat) (st : List Step) (f : T → Option (Unit × T)) (ok : Bool) (s : S) (Q : O → Prop) (ρ : Rho) (t : T) : Prop := wO (stepsD ρ st) (kMu3 φ io k f ok s Q ρ t)
theorem vMut {k : Nat} {st : List Step} {mu : Mu} {pu : Bool} {s : S} {us : List T} : kMut φ io k st mu pu s Q us ρ = wO (getSlot ρ k) (kMu2 φ io k st (mutT mu us) (st.isEmpty || pu) s Q ρ) := rfl
def kExt2 (φ : Nat → List T → FR) (io : List Nat) (k : Nat) (st : List Step) (ok : Bool) (s : S) (Q : O → Prop) (ρ : Rho) (xs : List D) : Prop := wO (getSlot ρ k) (kMu2 φ io k st (extT xs) ok s Q ρ)
theorem vExt {k : Nat} {st : List Step} {pu : Bool} {s : S} {u : T} : kExt φ io k st pu s Q u ρ = wO (kExt.seqL u) (kExt2 φ io k st (st.isEmpty || pu) s Q ρ) := rfl
def kSt5 (φ : Nat → List T → FR) (io : List Nat) (k : Nat) (u : T) (ok : Bool) (s : S) (Q : O → Prop) (ρ : Rho) (t : T) (ds : List D) (d : D) : Prop := wO (onPath (storeT d u) ds t) (kMu4 φ io k ok s Q ρ)
def kSt4 (φ : Nat → List T → FR) (io : List Nat) (k : Nat) (u j : T) (ok : Bool) (s : S) (Q : O → Prop) (ρ : Rho) (t : T) (ds : List D) : Prop := wO (leafOf j) (kSt5 φ io k u ok s Q ρ t ds)
def kSt3 (φ : Nat → List T → FR) (io : List Nat) (k : Nat) (st : List Step) (u j : T) (ok : Bool) (s : S) (Q : O → Prop) (ρ : Rho) (t : T) : Prop := wO (stepsD ρ st) (kSt4 φ io k u j ok s Q ρ t)
theorem vStore2 {k : Nat} {st : List Step} {pu : Bool} {u j : T} {s : S} : kStore2 φ io k st pu u s Q j ρ = wO (getSlot ρ k) (kSt3 φ io k st u j (st.isEmpty || pu) s Q ρ) := rfl
theorem vorF_at {p : Pat} {body : S} {d : D} : wQ (forF φ io p body d ρ) Q = wO (bindIo io p d ρ) (kGo φ io body Q) := forF_at
theorem vCh3 {c : Cm} {y z : T} : kCh3 c y C z ρ = wO (cmpOp c y z) (kAt C ρ) := rfl
def kVAnd4 (φ : Nat → List T → FR) (b : E) (K : T → Rho → Prop) (ρ : Rho) (d : D) (k : Bool) : Prop := if k = true then wE φ .rd b ρ (kVAnd2 K) else K (.leaf d) ρ
def kVAnd3 (φ : Nat → List T → FR) (b : E) (K : T → Rho → Prop) (x : T) (ρ : Rho) (d : D) : Prop := wO x.truth (kVAnd4 φ b K ρ d)
theorem vVAnd {b : E} {x : T} : kVAnd φ b K x ρ = wO (leafOf x) (kVAnd3 φ b K x ρ) := rfl
def kVOr4 (φ : Nat → List T → FR) (b : E) (K : T → Rho → Prop) (ρ : Rho) (d : D) (k : Bool) : Prop := if k = true then K (.leaf d) ρ else wE φ .rd b ρ (kVAnd2 K)
def kVOr3 (φ : Nat → List T → FR) (b : E) (K : T → Rho → Prop) (x : T) (ρ : Rho) (d : D) : Prop := wO x.truth (kVOr4 φ b K ρ d)
theorem vVOr {b : E} {x : T} : kVOr φ b K x ρ = wO (leafOf x) (kVOr3 φ b K x ρ) := rfl
def kVNot2 (K : T → Rho → Prop) (ρ : Rho) (k : Bool) : Prop := K (.leaf (.bool (!k))) ρ
theorem vVNot {x : T} : kVNot K x ρ = wO x.truth (kVNot2 K ρ) := rfl
def kOpt2 (K : Option Int → Rho → Prop) (ρ : Rho) (i : Int) : Prop := K (some i) ρ
theorem vOpt {K : Option Int → Rho → Prop} {t : T} : kOpt K t ρ = wO (asInt t) (kOpt2 K ρ) := rfl
def kSl4 (l h : Option Int) (K : T → Rho → Prop) (ρ : Rho) (x : T) : Prop := wO (sliceT x l h) (kAt K ρ)
theorem vSl3 {a : E} {pu : Bool} {t : T} {l h : Option Int} : kSl3 a pu t l K h ρ = wO (opnd a t ρ pu) (kSl4 l h K ρ) := rfl
def kRev2 (K : T → Rho → Prop) (ρ : Rho) (xs : List D) : Prop := K (.lst (xs.reverse.map .leaf)) ρ
theorem vRev {t : T} : kRev K t ρ = wO (kExt.seqL t) (kRev2 K ρ) := rfl
def kPop4 (k : Nat) (ok : Bool) (K : T → Rho → Prop) (ρ : Rho) (r : T × T) : Prop := (ok = true ∧ r.1.isLeaf = true) ∧ K r.1 (ρ.set k (some r.2))
def kPop3 (k : Nat) (ok : Bool) (K : T → Rho → Prop) (o : Option Int) (ρ : Rho) (t : T) (ds : List D) : Prop := wO (onPath (popT o) ds t) (kPop4 k ok K ρ)
def kPop2 (k : Nat) (st : List Step) (ok : Bool) (K : T → Rho → Prop) (o : Option Int) (ρ : Rho) (t : T) : Prop := wO (stepsD ρ st) (kPop3 k ok K o ρ t)
theorem vPop {k : Nat} {st : List Step} {ok : Bool} {o : Option Int} : kPop k st ok K o ρ = wO (getSlot ρ k) (kPop2 k st ok K o ρ) := rfl
def kCK5 (K : T → Rho → Prop) (ρ : Rho) (t : T) (_o : List (Option T)) : Prop := K t ρ
def kCK4 (φ : Nat → List T → FR) (f : Nat) (K : T → Rho → Prop) (ρ : Rho) (as : List D) : Prop := wF (φ f (as.map .leaf)) (kCK5 K ρ)
def kCK3 (φ : Nat → List T → FR) (f : Nat) (pm : List Nat) (K : T → Rho → Prop) (ρ : Rho) (ds es : List D) : Prop := wO (permL pm (ds ++ es)) (kCK4 φ f K ρ)
def kCK2 (φ : Nat → List T → FR) (f : Nat) (pm : List Nat) (us : List T) (K : T → Rho → Prop) (ρ : Rho) (ds : List D) : Prop := wO (leaves us) (kCK3 φ f pm K ρ ds)
theorem vCallK2 {f : Nat} {pm : List Nat} {ts us : List T} : kCallK2 φ f pm ts K us ρ = wO (leaves ts) (kCK2 φ f pm us K ρ) := rfl
end
theorem wOp_non  {φ : Nat → List T → FR} {ρ : Rho} {K : Option Int → Rho → Prop} : wOp φ (.non ) ρ K = wE φ .rd (.non ) ρ (kOpt K) := wOp_e rfl
theorem vompF_non  {φ : Nat → List T → FR} {ρ : Rho} {J : Option T → Rho → Prop} {e0 : E} {p0 : Pat} {d0 : D} : wR (compF φ e0 p0 (.non ) d0 ρ) J = wO (bindP p0 d0 ρ) (kBc φ (.non ) e0 p0 J) := compF_if rfl
theorem wOp_bl {b : Bool} {φ : Nat → List T → FR} {ρ : Rho} {K : Option Int → Rho → Prop} : wOp φ (.bl b) ρ K = wE φ .rd (.bl b) ρ (kOpt K) := wOp_e rfl
theorem vompF_bl {b : Bool} {φ : Nat → List T → FR} {ρ : Rho} {J : Option T → Rho → Prop} {e0 : E} {p0 : Pat} {d0 : D} : wR (compF φ e0 p0 (.bl b) d0 ρ) J = wO (bindP p0 d0 ρ) (kBc φ (.bl b) e0 p0 J) := compF_if rfl
theorem wOp_int {i : Int} {φ : Nat → List T → FR} {ρ : Rho} {K : Option Int → Rho → Prop} : wOp φ (.int i) ρ K = wE φ .rd (.int i) ρ (kOpt K) := wOp_e rfl
theorem vompF_int {i : Int} {φ : Nat → List T → FR} {ρ : Rho} {J : Option T → Rho → Prop} {e0 : E} {p0 : Pat} {d0 : D} : wR (compF φ e0 p0 (.int i) d0 ρ) J = wO (bindP p0 d0 ρ) (kBc φ (.int i) e0 p0 J) := compF_if rfl
theorem wOp_str {s : Str} {φ : Nat → List T → FR} {ρ : Rho} {K : Option Int → Rho → Prop} : wOp φ (.str s) ρ K = wE φ .rd (.str s) ρ (kOpt K) := wOp_e rfl
theorem vompF_str {s : Str} {φ : Nat → List T → FR} {ρ : Rho} {J : Option T → Rho → Prop} {e0 : E} {p0 : Pat} {d0 : D} : wR (compF φ e0 p0 (.str s) d0 ρ) J = wO (bindP p0 d0 ρ) (kBc φ (.str s) e0 p0 J) := compF_if rfl
theorem wOp_var {k : Nat} {φ : Nat → List T → FR} {ρ : Rho} {K : Option Int → Rho → Prop} : wOp φ (.var k) ρ K = wE φ .rd (.var k) ρ (kOpt K) := wOp_e rfl
theorem vompF_var {k : Nat} {φ : Nat → List T → FR} {ρ : Rho} {J : Option T → Rho → Prop} {e0 : E} {p0 : Pat} {d0 : D} : wR (compF φ e0 p0 (.var k) d0 ρ) J = wO (bindP p0 d0 ρ) (kBc φ (.var k) e0 p0 J) := compF_if rfl
theorem wOp_glob {x : Str} {d : D} {φ : Nat → List T → FR} {ρ : Rho} {K : Option Int → Rho → Prop} : wOp φ (.glob x d) ρ K = wE φ .rd (.glob x d) ρ (kOpt K) := wOp_e rfl
theorem vompF_glob {x : Str} {d : D} {φ : Nat → List T → FR} {ρ : Rho} {J : Option T → Rho → Prop} {e0 : E} {p0 : Pat} {d0 : D} : wR (compF φ e0 p0 (.glob x d) d0 ρ) J = wO (bindP p0 d0 ρ) (kBc φ (.glob x d) e0 p0 J) := compF_if rfl
theorem wOp_tup {es : Es} {φ : Nat → List T → FR} {ρ : Rho} {K : Option Int → Rho → Prop} : wOp φ (.tup es) ρ K = wE φ .rd (.tup es) ρ (kOpt K) := wOp_e rfl
theorem vompF_tup {es : Es} {φ : Nat → List T → FR} {ρ : Rho} {J : Option T → Rho → Prop} {e0 : E} {p0 : Pat} {d0 : D} : wR (compF φ e0 p0 (.tup es) d0 ρ) J = wO (bindP p0 d0 ρ) (kBc φ (.tup es) e0 p0 J) := compF_if rfl
theorem wOp_lst {es : Es} {φ : Nat → List T → FR} {ρ : Rho} {K : Option Int → Rho → Prop} : wOp φ (.lst es) ρ K = wE φ .rd (.lst es) ρ (kOpt K) := wOp_e rfl
theorem vompF_lst {es : Es} {φ : Nat → List T → FR} {ρ : Rho} {J : Option T → Rho → Prop} {e0 : E} {p0 : Pat} {d0 : D} : wR (compF φ e0 p0 (.lst es) d0 ρ) J = wO (bindP p0 d0 ρ) (kBc φ (.lst es) e0 p0 J) := compF_if rfl
theorem wOp_dct {ks : List Key} {es : Es} {φ : Nat → List T → FR} {ρ : Rho} {K : Option Int → Rho → Prop} : wOp φ (.dct ks es) ρ K = wE φ .rd (.dct ks es) ρ (kOpt K) := wOp_e rfl
theorem vompF_dct {ks : List Key} {es : Es} {φ : Nat → List T → FR} {ρ : Rho} {J : Option T → Rho → Prop} {e0 : E} {p0 : Pat} {d0 : D} : wR (compF φ e0 p0 (.dct ks es) d0 ρ) J = wO (bindP p0 d0 ρ) (kBc φ (.dct ks es) e0 p0 J) := compF_if rfl
theorem wOp_bin {op : Op} {a b : E} {φ : Nat → List T → FR} {ρ : Rho} {K : Option Int → Rho → Prop} : wOp φ (.bin op a b) ρ K = wE φ .rd (.bin op a b) ρ (kOpt K) := wOp_e rfl
theorem vompF_bin {op : Op} {a b : E} {φ : Nat → List T → FR} {ρ : Rho} {J : Option T → Rho → Prop} {e0 : E} {p0 : Pat} {d0 : D} : wR (compF φ e0 p0 (.bin op a b) d0 ρ) J = wO (bindP p0 d0 ρ) (kBc φ (.bin op a b) e0 p0 J) := compF_if rfl
theorem wOp_neg {a : E} {φ : Nat → List T → FR} {ρ : Rho} {K : Option Int → Rho → Prop} : wOp φ (.neg a) ρ K = wE φ .rd (.neg a) ρ (kOpt K) := wOp_e rfl
theorem vompF_neg {a : E} {φ : Nat → List T → FR} {ρ : Rho} {J : Option T → Rho → Prop} {e0 : E} {p0 : Pat} {d0 : D} : wR (compF φ e0 p0 (.neg a) d0 ρ) J = wO (bindP p0 d0 ρ) (kBc φ (.neg a) e0 p0 J) := compF_if rfl
theorem wOp_cmp {c : Cm} {a b : E} {φ : Nat → List T → FR} {ρ : Rho} {K : Option Int → Rho → Prop} : wOp φ (.cmp c a b) ρ K = wE φ .rd (.cmp c a b) ρ (kOpt K) := wOp_e rfl
theorem vompF_cmp {c : Cm} {a b : E} {φ : Nat → List T → FR} {ρ : Rho} {J : Option T → Rho → Prop} {e0 : E} {p0 : Pat} {d0 : D} : wR (compF φ e0 p0 (.cmp c a b) d0 ρ) J = wO (bindP p0 d0 ρ) (kBc φ (.cmp c a b) e0 p0 J) := compF_if rfl
theorem wOp_chain {c c2 : Cm} {a b d : E} {φ : Nat → List T → FR} {ρ : Rho} {K : Option Int → Rho → Prop} : wOp φ (.chain c c2 a b d) ρ K = wE φ .rd (.chain c c2 a b d) ρ (kOpt K) := wOp_e rfl
theorem vompF_chain {c c2 : Cm} {a b d : E} {φ : Nat → List T → FR} {ρ : Rho} {J : Option T → Rho → Prop} {e0 : E} {p0 : Pat} {d0 : D} : wR (compF φ e0 p0 (.chain c c2 a b d) d0 ρ) J = wO (bindP p0 d0 ρ) (kBc φ (.chain c c2 a b d) e0 p0 J) := compF_if rfl
theorem wOp_and {a b : E} {φ : Nat → List T → FR} {ρ : Rho} {K : Option Int → Rho → Prop} : wOp φ (.and a b) ρ K = wE φ .rd (.and a b) ρ (kOpt K) := wOp_e rfl
theorem vompF_and {a b : E} {φ : Nat → List T → FR} {ρ : Rho} {J : Option T → Rho → Prop} {e0 : E} {p0 : Pat} {d0 : D} : wR (compF φ e0 p0 (.and a b) d0 ρ) J = wO (bindP p0 d0 ρ) (kBc φ (.and a b) e0 p0 J) := compF_if rfl
theorem wOp_or {a b : E} {φ : Nat → List T → FR} {ρ : Rho} {K : Option Int → Rho → Prop} : wOp φ (.or a b) ρ K = wE φ .rd (.or a b) ρ (kOpt K) := wOp_e rfl
theorem vompF_or {a b : E} {φ : Nat → List T → FR} {ρ : Rho} {J : Option T → Rho → Prop} {e0 : E} {p0 : Pat} {d0 : D} : wR (compF φ e0 p0 (.or a b) d0 ρ) J = wO (bindP p0 d0 ρ) (kBc φ (.or a b) e0 p0 J) := compF_if rfl
theorem wOp_not {a : E} {φ : Nat → List T → FR} {ρ : Rho} {K : Option Int → Rho → Prop} : wOp φ (.not a) ρ K = wE φ .rd (.not a) ρ (kOpt K) := wOp_e rfl
theorem vompF_not {a : E} {φ : Nat → List T → FR} {ρ : Rho} {J : Option T → Rho → Prop} {e0 : E} {p0 : Pat} {d0 : D} : wR (compF φ e0 p0 (.not a) d0 ρ) J = wO (bindP p0 d0 ρ) (kBc φ (.not a) e0 p0 J) := compF_if rfl
theorem wOp_ite {c a b : E} {φ : Nat → List T → FR} {ρ : Rho} {K : Option Int → Rho → Prop} : wOp φ (.ite c a b) ρ K = wE φ .rd (.ite c a b) ρ (kOpt K) := wOp_e rfl
theorem vompF_ite {c a b : E} {φ : Nat → List T → FR} {ρ : Rho} {J : Option T → Rho → Prop} {e0 : E} {p0 : Pat} {d0 : D} : wR (compF φ e0 p0 (.ite c a b) d0 ρ) J = wO (bindP p0 d0 ρ) (kBc φ (.ite c a b) e0 p0 J) := compF_if rfl
theorem wOp_idx {a i : E} {φ : Nat → List T → FR} {ρ : Rho} {K : Option Int → Rho → Prop} : wOp φ (.idx a i) ρ K = wE φ .rd (.idx a i) ρ (kOpt K) := wOp_e rfl
theorem vompF_idx {a i : E} {φ : Nat → List T → FR} {ρ : Rho} {J : Option T → Rho → Prop} {e0 : E} {p0 : Pat} {d0 : D} : wR (compF φ e0 p0 (.idx a i) d0 ρ) J = wO (bindP p0 d0 ρ) (kBc φ (.idx a i) e0 p0 J) := compF_if rfl
theorem wOp_slice {a lo hi : E} {φ : Nat → List T → FR} {ρ : Rho} {K : Option Int → Rho → Prop} : wOp φ (.slice a lo hi) ρ K = wE φ .rd (.slice a lo hi) ρ (kOpt K) := wOp_e rfl
theorem vompF_slice {a lo hi : E} {φ : Nat → List T → FR} {ρ : Rho} {J : Option T → Rho → Prop} {e0 : E} {p0 : Pat} {d0 : D} : wR (compF φ e0 p0 (.slice a lo hi) d0 ρ) J = wO (bindP p0 d0 ρ) (kBc φ (.slice a lo hi) e0 p0 J) := compF_if rfl
theorem wOp_rev {a : E} {φ : Nat → List T → FR} {ρ : Rho} {K : Option Int → Rho → Prop} : wOp φ (.rev a) ρ K = wE φ .rd (.rev a) ρ (kOpt K) := wOp_e rfl
theorem vompF_rev {a : E} {φ : Nat → List T → FR} {ρ : Rho} {J : Option T → Rho → Prop} {e0 : E} {p0 : Pat} {d0 : D} : wR (compF φ e0 p0 (.rev a) d0 ρ) J = wO (bindP p0 d0 ρ) (kBc φ (.rev a) e0 p0 J) := compF_if rfl
theorem wOp_call {f : Nat} {es : Es} {φ : Nat → List T → FR} {ρ : Rho} {K : Option Int → Rho → Prop} : wOp φ (.call f es) ρ K = wE φ .rd (.call f es) ρ (kOpt K) := wOp_e rfl
theorem vompF_call {f : Nat} {es : Es} {φ : Nat → List T → FR} {ρ : Rho} {J : Option T → Rho → Prop} {e0 : E} {p0 : Pat} {d0 : D} : wR (compF φ e0 p0 (.call f es) d0 ρ) J = wO (bindP p0 d0 ρ) (kBc φ (.call f es) e0 p0 J) := compF_if rfl
theorem wOp_f1 {f : F1} {a : E} {φ : Nat → List T → FR} {ρ : Rho} {K : Option Int → Rho → Prop} : wOp φ (.f1 f a) ρ K = wE φ .rd (.f1 f a) ρ (kOpt K) := wOp_e rfl
theorem vompF_f1 {f : F1} {a : E} {φ : Nat → List T → FR} {ρ : Rho} {J : Option T → Rho → Prop} {e0 : E} {p0 : Pat} {d0 : D} : wR (compF φ e0 p0 (.f1 f a) d0 ρ) J = wO (bindP p0 d0 ρ) (kBc φ (.f1 f a) e0 p0 J) := compF_if rfl
theorem wOp_f2 {f : F2} {a b : E} {φ : Nat → List T → FR} {ρ : Rho} {K : Option Int → Rho → Prop} : wOp φ (.f2 f a b) ρ K = wE φ .rd (.f2 f a b) ρ (kOpt K) := wOp_e rfl
theorem vompF_f2 {f : F2} {a b : E} {φ : Nat → List T → FR} {ρ : Rho} {J : Option T → Rho → Prop} {e0 : E} {p0 : Pat} {d0 : D} : wR (compF φ e0 p0 (.f2 f a b) d0 ρ) J = wO (bindP p0 d0 ρ) (kBc φ (.f2 f a b) e0 p0 J) := compF_if rfl
theorem wOp_isi {a : E} {y : Ty} {φ : Nat → List T → FR} {ρ : Rho} {K : Option Int → Rho → Prop} : wOp φ (.isi a y) ρ K = wE φ .rd (.isi a y) ρ (kOpt K) := wOp_e rfl
theorem vompF_isi {a : E} {y : Ty} {φ : Nat → List T → FR} {ρ : Rho} {J : Option T → Rho → Prop} {e0 : E} {p0 : Pat} {d0 : D} : wR (compF φ e0 p0 (.isi a y) d0 ρ) J = wO (bindP p0 d0 ρ) (kBc φ (.isi a y) e0 p0 J) := compF_if rfl
theorem wOp_comp {e : E} {p : Pat} {it : It} {c : E} {φ : Nat → List T → FR} {ρ : Rho} {K : Option Int → Rho → Prop} : wOp φ (.comp e p it c) ρ K = wE φ .rd (.comp e p it c) ρ (kOpt K) := wOp_e rfl
theorem vompF_comp {e : E} {p : Pat} {it : It} {c : E} {φ : Nat → List T → FR} {ρ : Rho} {J : Option T → Rho → Prop} {e0 : E} {p0 : Pat} {d0 : D} : wR (compF φ e0 p0 (.comp e p it c) d0 ρ) J = wO (bindP p0 d0 ρ) (kBc φ (.comp e p it c) e0 p0 J) := compF_if rfl
theorem wOp_pop {k : Nat} {st : List Step} {i : E} {φ : Nat → List T → FR} {ρ : Rho} {K : Option Int → Rho → Prop} : wOp φ (.pop k st i) ρ K = wE φ .rd (.pop k st i) ρ (kOpt K) := wOp_e rfl
theorem vompF_pop {k : Nat} {st : List Step} {i : E} {φ : Nat → List T → FR} {ρ : Rho} {J : Option T → Rho → Prop} {e0 : E} {p0 : Pat} {d0 : D} : wR (compF φ e0 p0 (.pop k st i) d0 ρ) J = wO (bindP p0 d0 ρ) (kBc φ (.pop k st i) e0 p0 J) := compF_if rfl
theorem wOp_mt {m : Mt} {a : E} {es : Es} {φ : Nat → List T → FR} {ρ : Rho} {K : Option Int → Rho → Prop} : wOp φ (.mt m a es) ρ K = wE φ .rd (.mt m a es) ρ (kOpt K) := wOp_e rfl
theorem vompF_mt {m : Mt} {a : E} {es : Es} {φ : Nat → List T → FR} {ρ : Rho} {J : Option T → Rho → Prop} {e0 : E} {p0 : Pat} {d0 : D} : wR (compF φ e0 p0 (.mt m a es) d0 ρ) J = wO (bindP p0 d0 ρ) (kBc φ (.mt m a es) e0 p0 J) := compF_if rfl
theorem wOp_gidx {x : Str} {ys : List Str} {a : E} {φ : Nat → List T → FR} {ρ : Rho} {K : Option Int → Rho → Prop} : wOp φ (.gidx x ys a) ρ K = wE φ .rd (.gidx x ys a) ρ (kOpt K) := wOp_e rfl
theorem vompF_gidx {x : Str} {ys : List Str} {a : E} {φ : Nat → List T → FR} {ρ : Rho} {J : Option T → Rho → Prop} {e0 : E} {p0 : Pat} {d0 : D} : wR (compF φ e0 p0 (.gidx x ys a) d0 ρ) J = wO (bindP p0 d0 ρ) (kBc φ (.gidx x ys a) e0 p0 J) := compF_if rfl
theorem wOp_frz {a : E} {φ : Nat → List T → FR} {ρ : Rho} {K : Option Int → Rho → Prop} : wOp φ (.frz a) ρ K = wE φ .rd (.frz a) ρ (kOpt K) := wOp_e rfl
theorem vompF_frz {a : E} {φ : Nat → List T → FR} {ρ : Rho} {J : Option T → Rho → Prop} {e0 : E} {p0 : Pat} {d0 : D} : wR (compF φ e0 p0 (.frz a) d0 ρ) J = wO (bindP p0 d0 ρ) (kBc φ (.frz a) e0 p0 J) := compF_if rfl
theorem wF_get {fr : FR} {Q : T → List (Option T) → Prop} (h : wF fr Q) : ∃ t o, fr = .ret t o ∧ Q t o := by
  cases fr with
  | ret t o => exact ⟨t, o, rfl, h⟩
  | exc x o => exact h.elim
  | bad => exact h.elim
theorem at_last {ns : List Int} (h : ns ≠ []) : ∃ v, idxT (.lst (tInts ns)) (.int (-1)) = some (.leaf (.int v)) := by
  have hl : 0 < ns.length := List.length_pos_iff.2 h
  refine ⟨ns[ns.length - 1], ?_⟩
  show L2.atI (tInts ns) (-1) = _
  unfold L2.atI L2.ixN
  have e : (tInts ns).length = ns.length := tInts_len ns
  rw [e, if_neg (by omega), if_pos (by omega)]
  show (tInts ns)[(-1 + (ns.length : Int)).toNat]? = _
  have e2 : (-1 + (ns.length : Int)).toNat = ns.length - 1 := by omega
  rw [e2]
  unfold tInts
  rw [List.getElem?_map, List.getElem?_eq_getElem (by omega)]; rfl
theorem slice_scr {ns : List Int} {lo hi : Option Int} : ∃ xs : List Int, xs.length ≤ ns.length ∧ (∀ x, x ∈ xs → x ∈ ns) ∧ sliceT (.scr ns) lo hi = some (.lst (tInts xs)) := by
  refine ⟨(ns.drop (HT.sIx ns.length 0 lo)).take (HT.sIx ns.length ns.length hi - HT.sIx ns.length 0 lo), ?_, ?_, rfl⟩
  · rw [List.length_take, List.length_drop]; omega
  · intro x hx
    exact List.mem_of_mem_drop (List.mem_of_mem_take hx)
theorem tInts_snoc {ns : List Int} {x : Int} : tInts ns ++ [.leaf (.int x)] = tInts (ns ++ [x]) := by unfold tInts; rw [List.map_append]; rfl
theorem int_int {i : Int} : fun1 .int (.leaf (.int i)) = some (.leaf (.int i)) := rfl
theorem abs_int {i : Int} : fun1 .abs (.leaf (.int i)) = some (.leaf (.int (if i < 0 then -i else i))) := rfl
/-- an int out of a tuple of ints -/
theorem at_tints {is : List Int} {i : Int} (h0 : 0 ≤ i) (h1 : i < is.length) : ∃ v, is[i.toNat]? = some v ∧ v ∈ is ∧ idxT (.leaf (.tuple (is.map .int))) (.int i) = some (.leaf (.int v)) := by
  have hl : i.toNat < is.length := by omega
  refine ⟨is[i.toNat], List.getElem?_eq_getElem hl, List.getElem_mem hl, ?_⟩
  show (L2.atI (is.map .int) i).map T.leaf = _
  rw [atI_nat h0, List.getElem?_map, List.getElem?_eq_getElem hl]; rfl
theorem itemsS_ints {ns : List Int} : itemsS (.lst (tInts ns)) = some (ns.map .int) := by
  simp only [itemsS, items, T.flat, leaves_ints]
theorem big62_of {i : Int} (h1 : -4611686018427387904 < i) (h2 : i < 4611686018427387904) : big62 i = true := by
  unfold big62; rw [Nat.ble_eq]; omega
def tStrs (xs : List Str) : List T := xs.map fun x => .leaf (.str x)
theorem tStrs_len (xs : List Str) : (tStrs xs).length = xs.length := by unfold tStrs; exact List.length_map ..
theorem tStrs_snoc {xs : List Str} {x : Str} : tStrs xs ++ [.leaf (.str x)] = tStrs (xs ++ [x]) := by unfold tStrs; rw [List.map_append]; rfl
theorem leaves_strs (xs : List Str) : leaves (tStrs xs) = some (xs.map .str) := by
  induction xs with
  | nil => rfl
  | cons n r ih => simp only [tStrs, List.map_cons, leaves] at ih ⊢; rw [ih]
theorem erase_map {α β : Type} {f : α → β} : ∀ (xs : List α) (i : Nat), (xs.map f).eraseIdx i = (xs.eraseIdx i).map f
  | [], i => by simp
  | x :: r, 0 => by simp
  | x :: r, i + 1 => by simp only [List.map_cons, List.eraseIdx_cons_succ, erase_map r i]
theorem pop_strs {xs : List Str} {i : Int} (h0 : 0 ≤ i) (h1 : i < xs.length) (hz : xs.length ≤ 1000) : ∃ x, x ∈ xs ∧ popT (some i) (.lst (tStrs xs)) = some (.leaf (.str x), .lst (tStrs (xs.eraseIdx i.toNat))) := by
  obtain ⟨t, e1, e2⟩ := pop_at (ts := tStrs xs) h0 (by rw [tStrs_len]; exact h1) (by rw [tStrs_len]; omega)
  unfold tStrs at e1
  rw [List.getElem?_map] at e1
  cases hx : xs[i.toNat]? with
  | none => rw [hx] at e1; cases e1
  | some x =>
    rw [hx] at e1
    simp only [Option.map_some, Option.some.injEq] at e1
    subst e1
    refine ⟨x, List.mem_of_getElem? hx, ?_⟩
    rw [e2]
    unfold tStrs
    rw [erase_map]
theorem get_lt {α : Type} {xs : List α} {j : Nat} {d : α} (h : xs[j]? = some d) : j < xs.length := (List.getElem?_eq_some_iff.1 h).1
theorem get_mem {α : Type} {xs : List α} {j : Nat} {d : α} (h : xs[j]? = some d) : d ∈ xs := List.mem_of_getElem? h
theorem free_leaf {d : D} : (T.leaf d).free = true := rfl
theorem free_lst {ts : List T} : (T.lst ts).free = false := rfl
theorem free_dct {k : List (Key × T)} : (T.dct k).free = false := rfl
theorem free_scr {ns : List Int} : (T.scr ns).free = true := rfl
theorem free_rng {a b : Int} : (T.rng a b).free = true := rfl
theorem isLeaf_leaf {d : D} : (T.leaf d).isLeaf = true := rfl
theorem isLeaf_lst {ts : List T} : (T.lst ts).isLeaf = false := rfl
theorem isLeaf_dct {k : List (Key × T)} : (T.dct k).isLeaf = false := rfl
theorem isLeaf_scr {ns : List Int} : (T.scr ns).isLeaf = false := rfl
theorem isLeaf_rng {a b : Int} : (T.rng a b).isLeaf = false := rfl
/-- a fact that simp does not use -/
structure Fact (p : Prop) : Prop where
  out : p
theorem is_nn : cmpOp .is (.leaf .none) (.leaf .none) = some true := rfl
theorem is_in {i : Int} : cmpOp .is (.leaf (.int i)) (.leaf .none) = some false := rfl
theorem is_tn {ds : List D} : cmpOp .is (.leaf (.tuple ds)) (.leaf .none) = some false := rfl
theorem is_sn {x : Str} : cmpOp .is (.leaf (.str x)) (.leaf .none) = some false := rfl
theorem isnot_nn : cmpOp .isnot (.leaf .none) (.leaf .none) = some false := rfl
theorem isnot_in {i : Int} : cmpOp .isnot (.leaf (.int i)) (.leaf .none) = some true := rfl
theorem isnot_tn {ds : List D} : cmpOp .isnot (.leaf (.tuple ds)) (.leaf .none) = some true := rfl
theorem isnot_sn {x : Str} : cmpOp .isnot (.leaf (.str x)) (.leaf .none) = some true := rfl
theorem truth_none : T.truth (.leaf .none) = some false := rfl
theorem truth_bool {b : Bool} : T.truth (.leaf (.bool b)) = some b := rfl
theorem truth_int {i : Int} : T.truth (.leaf (.int i)) = some (i != 0) := rfl
theorem truth_tup {ds : List D} : T.truth (.leaf (.tuple ds)) = some (!ds.isEmpty) := rfl
theorem truth_lst {ts : List T} : T.truth (.lst ts) = some (!ts.isEmpty) := rfl
section
variable {φ : Nat → List T → FR} {ρ : Rho} {C : Bool → Rho → Prop}
theorem wC_call {f : Nat} {es : Es} : wC φ (.call f es) ρ C = wE φ .rd (.call f es) ρ (kTru C) := wC_fin (by simp only [ev]; rfl) (by simp only [ev]; rfl)
theorem wC_idx {a i : E} : wC φ (.idx a i) ρ C = wE φ .rd (.idx a i) ρ (kTru C) := wC_fin (r := ev φ .rd (.idx a i) ρ) (by simp only [ev, ne_eq, reduceCtorEq, not_false_eq_true, true_or, if_true]; rfl) rfl
theorem wC_f1 {f : F1} {a : E} : wC φ (.f1 f a) ρ C = wE φ .rd (.f1 f a) ρ (kTru C) := wC_fin (by simp only [ev]; rfl) (by simp only [ev]; rfl)
theorem wC_bin {op : Op} {a b : E} : wC φ (.bin op a b) ρ C = wE φ .rd (.bin op a b) ρ (kTru C) := wC_fin (by simp only [ev]; rfl) (by simp only [ev]; rfl)
theorem wC_mt {mt : Mt} {a : E} {es : Es} : wC φ (.mt mt a es) ρ C = wE φ .rd (.mt mt a es) ρ (kTru C) := wC_fin (by simp only [ev]; rfl) (by simp only [ev]; rfl)
theorem wC_bl {b : Bool} : wC φ (.bl b) ρ C = C b ρ := rfl
end
theorem bin_divL {a b : Int} (h : 0 < b) (h' : b < 1073741824) : binOp .fdiv (.leaf (.int a)) (.leaf (.int b)) = some (.leaf (.int (a / b))) := bin_divI (by
  unfold divOk
  rw [Bool.and_eq_true, decide_eq_true_eq, Bool.or_eq_true, Nat.ble_eq]
  exact ⟨h, Or.inl (by omega)⟩)
theorem bin_addT {xs ys : List D} (h : xs.length + ys.length ≤ 16777216) : binOp .add (.leaf (.tuple xs)) (.leaf (.tuple ys)) = some (.leaf (.tuple (xs ++ ys))) := by
  show (if Op.add = .add ∧ xs.length + ys.length ≤ sizeLine then some (T.leaf (.tuple (xs ++ ys))) else none) = _
  rw [if_pos ⟨rfl, by rw [szE]; exact h⟩]
theorem get_erase_perm {α : Type} : ∀ (l : List α) (i : Nat) (h : i < l.length), (l[i] :: l.eraseIdx i).Perm l
  | [], i, h => by simp at h
  | x :: r, 0, h => by simp
  | x :: r, i + 1, h => by
    simp only [List.getElem_cons_succ, List.eraseIdx_cons_succ]
    exact (List.Perm.swap _ _ _).trans ((get_erase_perm r i (by simpa using h)).cons x)
theorem flat_leaf {d : D} : T.flat (.leaf d) = some d := rfl
theorem flat_lst {ts : List T} : T.flat (.lst ts) = (leaves ts).map .list := by
  show (match leaves ts with | some ds => some (PyData.list ds) | none => none) = _
  cases leaves ts <;> rfl
theorem items_tup {xs : List D} : items (.leaf (.tuple xs)) = some xs := rfl
theorem items_list {xs : List D} : items (.leaf (.list xs)) = some xs := rfl
theorem items_scr {ns : List Int} : items (.scr ns) = some (ns.map .int) := rfl
theorem items_lst {ts : List T} : items (.lst ts) = leaves ts := by
  show (match T.flat (.lst ts) with | some (.list xs) => some xs | _ => none) = _
  rw [flat_lst]
  cases leaves ts <;> rfl
theorem itemsS_tup {xs : List D} : itemsS (.leaf (.tuple xs)) = some xs := rfl
theorem itemsS_list {xs : List D} : itemsS (.leaf (.list xs)) = some xs := rfl
theorem itemsS_scr {ns : List Int} : itemsS (.scr ns) = some (ns.map .int) := rfl
theorem itemsS_str {z : Str} : itemsS (.leaf (.str z)) = some (z.cps.toList.map fun c => .str ⟨#[c]⟩) := rfl
theorem itemsS_lst {ts : List T} : itemsS (.lst ts) = leaves ts := items_lst
theorem mem_enum {d : D} : ∀ {xs : List D} {n : Nat}, d ∈ enumFrom n xs → ∃ (i : Int) (x : D), x ∈ xs ∧ d = .tuple [.int i, x]
  | [], n, h => by simp [enumFrom] at h
  | x :: r, n, h => by
    simp only [enumFrom, List.mem_cons] at h
    rcases h with rfl | h
    · exact ⟨_, x, List.mem_cons_self .., rfl⟩
    · obtain ⟨i, y, hy, e⟩ := mem_enum h
      exact ⟨i, y, List.mem_cons_of_mem _ hy, e⟩
theorem slice_to {xs : List D} {i : Int} (h0 : 0 ≤ i) (h1 : i ≤ xs.length) : sliceT (.leaf (.tuple xs)) none (some i) = some (.leaf (.tuple (xs.take i.toNat))) := by
  show some (T.leaf (.tuple ((xs.drop 0).take ((if i < 0 then (i + (xs.length : Int)).toNat else min i.toNat xs.length) - 0)))) = _
  rw [if_neg (by omega), Nat.min_eq_left (by omega), List.drop_zero, Nat.sub_zero]
theorem slice_from {xs : List D} {i : Int} (h0 : 0 ≤ i) (h1 : i ≤ xs.length) : sliceT (.leaf (.tuple xs)) (some i) none = some (.leaf (.tuple (xs.drop i.toNat))) := by
  show some (T.leaf (.tuple ((xs.drop (if i < 0 then (i + (xs.length : Int)).toNat else min i.toNat xs.length)).take (xs.length - (if i < 0 then (i + (xs.length : Int)).toNat else min i.toNat xs.length))))) = _
  rw [if_neg (by omega), Nat.min_eq_left (by omega), List.take_of_length_le (by rw [List.length_drop]; omega)]
section
variable {φ : Nat → List T → FR} {ρ : Rho} {K : List T → Rho → Prop} {es0 : Es}
theorem wEs_non  : wEs φ (.cons (.non ) es0) ρ K = wE φ .mv (.non ) ρ (kEs φ es0 K) := wEs_cons fun _ z => by cases z
theorem wEs_bl {b : Bool} : wEs φ (.cons (.bl b) es0) ρ K = wE φ .mv (.bl b) ρ (kEs φ es0 K) := wEs_cons fun _ z => by cases z
theorem wEs_int {i : Int} : wEs φ (.cons (.int i) es0) ρ K = wE φ .mv (.int i) ρ (kEs φ es0 K) := wEs_cons fun _ z => by cases z
theorem wEs_str {s : Str} : wEs φ (.cons (.str s) es0) ρ K = wE φ .mv (.str s) ρ (kEs φ es0 K) := wEs_cons fun _ z => by cases z
theorem wEs_glob {x : Str} {d : D} : wEs φ (.cons (.glob x d) es0) ρ K = wE φ .mv (.glob x d) ρ (kEs φ es0 K) := wEs_cons fun _ z => by cases z
theorem wEs_tup {es : Es} : wEs φ (.cons (.tup es) es0) ρ K = wE φ .mv (.tup es) ρ (kEs φ es0 K) := wEs_cons fun _ z => by cases z
theorem wEs_lst {es : Es} : wEs φ (.cons (.lst es) es0) ρ K = wE φ .mv (.lst es) ρ (kEs φ es0 K) := wEs_cons fun _ z => by cases z
theorem wEs_dct {ks : List Key} {es : Es} : wEs φ (.cons (.dct ks es) es0) ρ K = wE φ .mv (.dct ks es) ρ (kEs φ es0 K) := wEs_cons fun _ z => by cases z
theorem wEs_bin {op : Op} {a b : E} : wEs φ (.cons (.bin op a b) es0) ρ K = wE φ .mv (.bin op a b) ρ (kEs φ es0 K) := wEs_cons fun _ z => by cases z
theorem wEs_neg {a : E} : wEs φ (.cons (.neg a) es0) ρ K = wE φ .mv (.neg a) ρ (kEs φ es0 K) := wEs_cons fun _ z => by cases z
theorem wEs_cmp {c : Cm} {a b : E} : wEs φ (.cons (.cmp c a b) es0) ρ K = wE φ .mv (.cmp c a b) ρ (kEs φ es0 K) := wEs_cons fun _ z => by cases z
theorem wEs_chain {c c2 : Cm} {a b d : E} : wEs φ (.cons (.chain c c2 a b d) es0) ρ K = wE φ .mv (.chain c c2 a b d) ρ (kEs φ es0 K) := wEs_cons fun _ z => by cases z
theorem wEs_and {a b : E} : wEs φ (.cons (.and a b) es0) ρ K = wE φ .mv (.and a b) ρ (kEs φ es0 K) := wEs_cons fun _ z => by cases z
theorem wEs_or {a b : E} : wEs φ (.cons (.or a b) es0) ρ K = wE φ .mv (.or a b) ρ (kEs φ es0 K) := wEs_cons fun _ z => by cases z
theorem wEs_not {a : E} : wEs φ (.cons (.not a) es0) ρ K = wE φ .mv (.not a) ρ (kEs φ es0 K) := wEs_cons fun _ z => by cases z
theorem wEs_ite {c a b : E} : wEs φ (.cons (.ite c a b) es0) ρ K = wE φ .mv (.ite c a b) ρ (kEs φ es0 K) := wEs_cons fun _ z => by cases z
theorem wEs_idx {a i : E} : wEs φ (.cons (.idx a i) es0) ρ K = wE φ .mv (.idx a i) ρ (kEs φ es0 K) := wEs_cons fun _ z => by cases z
theorem wEs_slice {a lo hi : E} : wEs φ (.cons (.slice a lo hi) es0) ρ K = wE φ .mv (.slice a lo hi) ρ (kEs φ es0 K) := wEs_cons fun _ z => by cases z
theorem wEs_rev {a : E} : wEs φ (.cons (.rev a) es0) ρ K = wE φ .mv (.rev a) ρ (kEs φ es0 K) := wEs_cons fun _ z => by cases z
theorem wEs_call {f : Nat} {es : Es} : wEs φ (.cons (.call f es) es0) ρ K = wE φ .mv (.call f es) ρ (kEs φ es0 K) := wEs_cons fun _ z => by cases z
theorem wEs_call0 {f : Nat} : wEs φ (.cons (.call0 f) es0) ρ K = wE φ .mv (.call0 f) ρ (kEs φ es0 K) := wEs_cons fun _ z => by cases z
theorem wEs_callK {f : Nat} {es ws : Es} {ks : List Str} {pm : List Nat} : wEs φ (.cons (.callK f es ws ks pm) es0) ρ K = wE φ .mv (.callK f es ws ks pm) ρ (kEs φ es0 K) := wEs_cons fun _ z => by cases z
theorem wEs_f1 {f : F1} {a : E} : wEs φ (.cons (.f1 f a) es0) ρ K = wE φ .mv (.f1 f a) ρ (kEs φ es0 K) := wEs_cons fun _ z => by cases z
theorem wEs_f2 {f : F2} {a b : E} : wEs φ (.cons (.f2 f a b) es0) ρ K = wE φ .mv (.f2 f a b) ρ (kEs φ es0 K) := wEs_cons fun _ z => by cases z
theorem wEs_isi {a : E} {y : Ty} : wEs φ (.cons (.isi a y) es0) ρ K = wE φ .mv (.isi a y) ρ (kEs φ es0 K) := wEs_cons fun _ z => by cases z
theorem wEs_comp {e : E} {p : Pat} {it : It} {c : E} : wEs φ (.cons (.comp e p it c) es0) ρ K = wE φ .mv (.comp e p it c) ρ (kEs φ es0 K) := wEs_cons fun _ z => by cases z
theorem wEs_pop {k : Nat} {st : List Step} {i : E} : wEs φ (.cons (.pop k st i) es0) ρ K = wE φ .mv (.pop k st i) ρ (kEs φ es0 K) := wEs_cons fun _ z => by cases z
theorem wEs_mt {m : Mt} {a : E} {es : Es} : wEs φ (.cons (.mt m a es) es0) ρ K = wE φ .mv (.mt m a es) ρ (kEs φ es0 K) := wEs_cons fun _ z => by cases z
theorem wEs_gidx {x : Str} {ys : List Str} {a : E} : wEs φ (.cons (.gidx x ys a) es0) ρ K = wE φ .mv (.gidx x ys a) ρ (kEs φ es0 K) := wEs_cons fun _ z => by cases z
theorem wEs_frz {a : E} : wEs φ (.cons (.frz a) es0) ρ K = wE φ .mv (.frz a) ρ (kEs φ es0 K) := wEs_cons fun _ z => by cases z
end
section
variable {φ : Nat → List T → FR} {m : M} {ρ : Rho} {K : T → Rho → Prop} {io : List Nat} {Q : O → Prop}
def kC0 (K : T → Rho → Prop) (ρ : Rho) (t : T) (_o : List (Option T)) : Prop := K t ρ
theorem wE_call0 (h : m ≠ .cd) {f : Nat} : wE φ m (.call0 f) ρ K = wF (φ f []) (kC0 K ρ) := by
  unfold wE
  rw [ev, finR h]
  cases φ f [] <;> rfl
theorem wC_call0 {f : Nat} {C : Bool → Rho → Prop} : wC φ (.call0 f) ρ C = wE φ .rd (.call0 f) ρ (kTru C) := wC_fin (by simp only [ev]; rfl) (by simp only [ev]; rfl)
/-- a child is lent: what comes out must not hang on the address -/
theorem wT_lendS {k j : Nat} {st : List Step} {s : S} {ds : List D} {o : O} (hd : stepsD ρ st = some ds) (hc : k ∉ io ∧ k ≠ j ∧ k < ρ.length) (h : ∀ a, wO (lendR k j ds a ρ) fun ρ1 => wT φ (k :: j :: io) s ρ1 fun o1 => backO k j ds a o1 = o) (hq : wQ o Q) : wT φ io (.lendS k j st s) ρ Q := by
  unfold wT
  rw [evS, hd]
  simp only
  rw [if_pos hc, pickO_eq (o := o)]
  · exact hq
  · intro a
    have h1 := h a
    cases hl : lendR k j ds a ρ with
    | none => rw [hl] at h1; exact h1.elim
    | some ρ1 =>
      rw [hl] at h1
      simp only
      have h2 : wQ (evS φ (k :: j :: io) s ρ1) (fun o1 => backO k j ds a o1 = o) := h1
      cases he : evS φ (k :: j :: io) s ρ1 with
      | exc x ρ2 => rw [he] at h2; exact h2.elim
      | bad => rw [he] at h2; exact h2.elim
      | next ρ2 => rw [he] at h2; exact h2
      | ret t ρ2 => rw [he] at h2; exact h2
      | brk ρ2 => rw [he] at h2; exact h2
      | cont ρ2 => rw [he] at h2; exact h2
end
theorem ixN_0 {n : Nat} : L2.ixN (n + 1) 0 = some 0 := by unfold L2.ixN; rw [if_pos (by omega), if_pos (by omega)]; rfl
theorem ixN_1 {n : Nat} : L2.ixN (n + 1 + 1) 1 = some 1 := by unfold L2.ixN; rw [if_pos (by omega), if_pos (by omega)]; rfl
theorem ixN_2 {n : Nat} : L2.ixN (n + 1 + 1 + 1) 2 = some 2 := by unfold L2.ixN; rw [if_pos (by omega), if_pos (by omega)]; rfl
theorem ixN_3 {n : Nat} : L2.ixN (n + 1 + 1 + 1 + 1) 3 = some 3 := by unfold L2.ixN; rw [if_pos (by omega), if_pos (by omega)]; rfl
theorem sl_0 {a u : T} {r : List T} : storeT (.int 0) u (.lst (a :: r)) = some ((), .lst (u :: r)) := by
  show (match L2.ixN (r.length + 1) 0 with | some n => some ((), T.lst ((a :: r).set n u)) | none => none) = _
  rw [ixN_0]; rfl
theorem sl_1 {a b u : T} {r : List T} : storeT (.int 1) u (.lst (a :: b :: r)) = some ((), .lst (a :: u :: r)) := by
  show (match L2.ixN (r.length + 1 + 1) 1 with | some n => some ((), T.lst ((a :: b :: r).set n u)) | none => none) = _
  rw [ixN_1]; rfl
theorem sl_2 {a b c u : T} {r : List T} : storeT (.int 2) u (.lst (a :: b :: c :: r)) = some ((), .lst (a :: b :: u :: r)) := by
  show (match L2.ixN (r.length + 1 + 1 + 1) 2 with | some n => some ((), T.lst ((a :: b :: c :: r).set n u)) | none => none) = _
  rw [ixN_2]; rfl
theorem storeT_dct {d : D} {u : T} {kvs : List (Key × T)} : storeT d u (.dct kvs) = match keyOf d with | some k => if kvs.length < sizeLine then some ((), .dct (putT kvs k u)) else none | none => none := rfl
theorem il_0 {a : T} {r : List T} : idxT (.lst (a :: r)) (.int 0) = some a := by
  show L2.atI (a :: r) 0 = _
  unfold L2.atI; rw [List.length_cons, ixN_0]; rfl
theorem il_1 {a b : T} {r : List T} : idxT (.lst (a :: b :: r)) (.int 1) = some b := by
  show L2.atI (a :: b :: r) 1 = _
  unfold L2.atI; rw [List.length_cons, List.length_cons, ixN_1]; rfl
theorem il_2 {a b c : T} {r : List T} : idxT (.lst (a :: b :: c :: r)) (.int 2) = some c := by
  show L2.atI (a :: b :: c :: r) 2 = _
  unfold L2.atI; rw [List.length_cons, List.length_cons, List.length_cons, ixN_2]; rfl
theorem it_0 {a : D} {r : List D} : idxT (.leaf (.tuple (a :: r))) (.int 0) = some (.leaf a) := by
  show (L2.atI (a :: r) 0).map T.leaf = _
  unfold L2.atI; rw [List.length_cons, ixN_0]; rfl
theorem it_1 {a b : D} {r : List D} : idxT (.leaf (.tuple (a :: b :: r))) (.int 1) = some (.leaf b) := by
  show (L2.atI (a :: b :: r) 1).map T.leaf = _
  unfold L2.atI; rw [List.length_cons, List.length_cons, ixN_1]; rfl
theorem it_2 {a b c : D} {r : List D} : idxT (.leaf (.tuple (a :: b :: c :: r))) (.int 2) = some (.leaf c) := by
  show (L2.atI (a :: b :: c :: r) 2).map T.leaf = _
  unfold L2.atI; rw [List.length_cons, List.length_cons, List.length_cons, ixN_2]; rfl
theorem it_3 {a b c d : D} {r : List D} : idxT (.leaf (.tuple (a :: b :: c :: d :: r))) (.int 3) = some (.leaf d) := by
  show (L2.atI (a :: b :: c :: d :: r) 3).map T.leaf = _
  unfold L2.atI; rw [List.length_cons, List.length_cons, List.length_cons, List.length_cons, ixN_3]; rfl
theorem wQ_ret {Q : O → Prop} {t : T} {ρ : Rho} : wQ (.ret t ρ) Q = Q (.ret t ρ) := rfl
theorem cast0 : ((0 : Nat) : Int) = 0 := rfl
end Pz
/-! P4h: lists that stand there are walked one by one. -/
namespace Pz
open PySem
section
variable {f : D → Rho → R (Option T)} {ρ : Rho} {K : List T → Rho → Prop}
def kCm2 (o : Option T) (K : List T → Rho → Prop) (ts : List T) (ρ : Rho) : Prop := K (match o with | some t => t :: ts | none => ts) ρ
def kCm (f : D → Rho → R (Option T)) (ds : List D) (K : List T → Rho → Prop) (o : Option T) (ρ : Rho) : Prop := wR (compM f ds ρ) (kCm2 o K)
theorem cm_nil : wR (compM f [] ρ) K = K [] ρ := rfl
theorem cm_cons {d : D} {ds : List D} : wR (compM f (d :: ds) ρ) K = wR (f d ρ) (kCm f ds K) := by
  rw [compM]
  refine wR_bindK fun o ρ1 => ?_
  unfold kCm
  exact wR_bindK fun ts ρ2 => rfl
theorem cm_at {ds : List D} {o : Option T} : kCm f ds K o ρ = wR (compM f ds ρ) (kCm2 o K) := rfl
theorem cm_some {t : T} {ts : List T} : kCm2 (some t) K ts ρ = K (t :: ts) ρ := rfl
theorem cm_none {ts : List T} : kCm2 none K ts ρ = K ts ρ := rfl
end
section
variable {f : D → Rho → O} {ρ : Rho} {Q : O → Prop}
def kFm (f : D → Rho → O) (ds : List D) (Q : O → Prop) : O → Prop
  | .next ρ => wQ (forM f ds ρ) Q
  | .cont ρ => wQ (forM f ds ρ) Q
  | .brk ρ => Q (.next ρ)
  | .ret t ρ => Q (.ret t ρ)
  | _ => False
theorem fm_nil : wQ (forM f [] ρ) Q = Q (.next ρ) := rfl
theorem fm_cons {d : D} {ds : List D} : wQ (forM f (d :: ds) ρ) Q = wQ (f d ρ) (kFm f ds Q) := by
  rw [forM]
  cases f d ρ <;> rfl
theorem fm_next {ds : List D} : kFm f ds Q (.next ρ) = wQ (forM f ds ρ) Q := rfl
theorem fm_cont {ds : List D} : kFm f ds Q (.cont ρ) = wQ (forM f ds ρ) Q := rfl
theorem fm_brk {ds : List D} : kFm f ds Q (.brk ρ) = Q (.next ρ) := rfl
theorem fm_ret {ds : List D} {t : T} : kFm f ds Q (.ret t ρ) = Q (.ret t ρ) := rfl
end
/-- a loop that comes to J, by its end or by break -/
def kJ (J : Rho → Prop) (Q : O → Prop) : O → Prop
  | .next ρ => J ρ
  | .ret t ρ => Q (.ret t ρ)
  | _ => False
theorem kJ_next {J : Rho → Prop} {Q : O → Prop} {ρ : Rho} : kJ J Q (.next ρ) = J ρ := rfl
theorem kJ_ret {J : Rho → Prop} {Q : O → Prop} {t : T} {ρ : Rho} : kJ J Q (.ret t ρ) = Q (.ret t ρ) := rfl
theorem forM_to {f : D → Rho → O} {Q : O → Prop} {ds : List D} {ρ : Rho} (I : Nat → Rho → Prop) (J : Rho → Prop) (h0 : I 0 ρ)
    (hs : ∀ j d ρ, ds[j]? = some d → I j ρ → wQ (f d ρ) (kTurn (I (j + 1)) (kJ J Q))) (he : ∀ ρ, I ds.length ρ → J ρ) (hJ : ∀ ρ, J ρ → Q (.next ρ)) : wQ (forM f ds ρ) Q := by
  have h : wQ (forM f ds ρ) (kJ J Q) := forM_inv I h0 hs (fun ρ h => he ρ h)
  cases e : forM f ds ρ with
  | next ρ1 => rw [e] at h; exact hJ _ h
  | ret t ρ1 => rw [e] at h; exact h
  | brk ρ1 => rw [e] at h; exact h.elim
  | cont ρ1 => rw [e] at h; exact h.elim
  | exc x ρ1 => rw [e] at h; exact h.elim
  | bad => rw [e] at h; exact h.elim
/-- what a call tells, ahead of what follows -/
theorem wF_of {fr : FR} {t : T} {outs : List (Option T)} {Q : T → List (Option T) → Prop} (e : fr = .ret t outs) (h : Q t outs) : wF fr Q := by rw [e]; exact h
/-! unfolding as equations: the kernel must not unfold what is walked -/
theorem q_kAt : type_of% @Pz.kAt.eq_1 := @Pz.kAt.eq_1
theorem q_kGo : type_of% @Pz.kGo.eq_1 := @Pz.kGo.eq_1
theorem q_kBin : type_of% @Pz.kBin.eq_1 := @Pz.kBin.eq_1
theorem q_kBin3 : type_of% @Pz.kBin3.eq_1 := @Pz.kBin3.eq_1
theorem q_kNeg2 : type_of% @Pz.kNeg2.eq_1 := @Pz.kNeg2.eq_1
theorem q_kCmp : type_of% @Pz.kCmp.eq_1 := @Pz.kCmp.eq_1
theorem q_kCmp3 : type_of% @Pz.kCmp3.eq_1 := @Pz.kCmp3.eq_1
theorem q_isAnd : type_of% @Pz.isAnd.eq_1 := @Pz.isAnd.eq_1
theorem q_isOr : type_of% @Pz.isOr.eq_1 := @Pz.isOr.eq_1
theorem q_isNot : type_of% @Pz.isNot.eq_1 := @Pz.isNot.eq_1
theorem q_kIdx : type_of% @Pz.kIdx.eq_1 := @Pz.kIdx.eq_1
theorem q_kIdx3 : type_of% @Pz.kIdx3.eq_1 := @Pz.kIdx3.eq_1
theorem q_kIdx4 : type_of% @Pz.kIdx4.eq_1 := @Pz.kIdx4.eq_1
theorem q_kIdx5 : type_of% @Pz.kIdx5.eq_1 := @Pz.kIdx5.eq_1
theorem q_kTup2 : type_of% @Pz.kTup2.eq_1 := @Pz.kTup2.eq_1
theorem q_kLst : type_of% @Pz.kLst.eq_1 := @Pz.kLst.eq_1
theorem q_kVar : type_of% @Pz.kVar.eq_1 := @Pz.kVar.eq_1
theorem q_kVarT : type_of% @Pz.kVarT.eq_1 := @Pz.kVarT.eq_1
theorem q_kEsO : type_of% @Pz.kEsO.eq_1 := @Pz.kEsO.eq_1
theorem q_kEs : type_of% @Pz.kEs.eq_1 := @Pz.kEs.eq_1
theorem q_kEsT : type_of% @Pz.kEsT.eq_1 := @Pz.kEsT.eq_1
theorem q_kC0 : type_of% @Pz.kC0.eq_1 := @Pz.kC0.eq_1
theorem q_kCall2 : type_of% @Pz.kCall2.eq_1 := @Pz.kCall2.eq_1
theorem q_kIte2 : type_of% @Pz.kIte2.eq_1 := @Pz.kIte2.eq_1
theorem q_kF2 : type_of% @Pz.kF2.eq_1 := @Pz.kF2.eq_1
theorem q_kRng2 : type_of% @Pz.kRng2.eq_1 := @Pz.kRng2.eq_1
theorem q_kEnum2 : type_of% @Pz.kEnum2.eq_1 := @Pz.kEnum2.eq_1
theorem q_kZip : type_of% @Pz.kZip.eq_1 := @Pz.kZip.eq_1
theorem q_kZip3 : type_of% @Pz.kZip3.eq_1 := @Pz.kZip3.eq_1
theorem q_kZip4 : type_of% @Pz.kZip4.eq_1 := @Pz.kZip4.eq_1
theorem q_kZip5 : type_of% @Pz.kZip5.eq_1 := @Pz.kZip5.eq_1
theorem q_kZip6 : type_of% @Pz.kZip6.eq_1 := @Pz.kZip6.eq_1
theorem q_kComp2 : type_of% @Pz.kComp2.eq_1 := @Pz.kComp2.eq_1
theorem q_kCompE : type_of% @Pz.kCompE.eq_1 := @Pz.kCompE.eq_1
theorem q_kBd : type_of% @Pz.kBd.eq_1 := @Pz.kBd.eq_1
theorem q_kBc : type_of% @Pz.kBc.eq_1 := @Pz.kBc.eq_1
theorem q_kEnd2 : type_of% @Pz.kEnd2.eq_1 := @Pz.kEnd2.eq_1
theorem q_kCh : type_of% @Pz.kCh.eq_1 := @Pz.kCh.eq_1
theorem q_kCh2 : type_of% @Pz.kCh2.eq_1 := @Pz.kCh2.eq_1
theorem q_kChB : type_of% @Pz.kChB.eq_1 := @Pz.kChB.eq_1
theorem q_kDct : type_of% @Pz.kDct.eq_1 := @Pz.kDct.eq_1
theorem q_kVAnd3 : type_of% @Pz.kVAnd3.eq_1 := @Pz.kVAnd3.eq_1
theorem q_kVAnd4 : type_of% @Pz.kVAnd4.eq_1 := @Pz.kVAnd4.eq_1
theorem q_kVAnd2 : type_of% @Pz.kVAnd2.eq_1 := @Pz.kVAnd2.eq_1
theorem q_kVOr3 : type_of% @Pz.kVOr3.eq_1 := @Pz.kVOr3.eq_1
theorem q_kVOr4 : type_of% @Pz.kVOr4.eq_1 := @Pz.kVOr4.eq_1
theorem q_kVNot2 : type_of% @Pz.kVNot2.eq_1 := @Pz.kVNot2.eq_1
theorem q_kOpt2 : type_of% @Pz.kOpt2.eq_1 := @Pz.kOpt2.eq_1
theorem q_kSl : type_of% @Pz.kSl.eq_1 := @Pz.kSl.eq_1
theorem q_kSl2 : type_of% @Pz.kSl2.eq_1 := @Pz.kSl2.eq_1
theorem q_kSl4 : type_of% @Pz.kSl4.eq_1 := @Pz.kSl4.eq_1
theorem q_kRev2 : type_of% @Pz.kRev2.eq_1 := @Pz.kRev2.eq_1
theorem q_kPop2 : type_of% @Pz.kPop2.eq_1 := @Pz.kPop2.eq_1
theorem q_kPop3 : type_of% @Pz.kPop3.eq_1 := @Pz.kPop3.eq_1
theorem q_kPop4 : type_of% @Pz.kPop4.eq_1 := @Pz.kPop4.eq_1
theorem q_kCallK : type_of% @Pz.kCallK.eq_1 := @Pz.kCallK.eq_1
theorem q_kCK2 : type_of% @Pz.kCK2.eq_1 := @Pz.kCK2.eq_1
theorem q_kCK3 : type_of% @Pz.kCK3.eq_1 := @Pz.kCK3.eq_1
theorem q_kCK4 : type_of% @Pz.kCK4.eq_1 := @Pz.kCK4.eq_1
theorem q_kCK5 : type_of% @Pz.kCK5.eq_1 := @Pz.kCK5.eq_1
theorem q_kAsg2 : type_of% @Pz.kAsg2.eq_1 := @Pz.kAsg2.eq_1
theorem q_kRet : type_of% @Pz.kRet.eq_1 := @Pz.kRet.eq_1
theorem q_kExpr : type_of% @Pz.kExpr.eq_1 := @Pz.kExpr.eq_1
theorem q_kIf : type_of% @Pz.kIf.eq_1 := @Pz.kIf.eq_1
theorem q_kMu2 : type_of% @Pz.kMu2.eq_1 := @Pz.kMu2.eq_1
theorem q_kMu3 : type_of% @Pz.kMu3.eq_1 := @Pz.kMu3.eq_1
theorem q_kMu4 : type_of% @Pz.kMu4.eq_1 := @Pz.kMu4.eq_1
theorem q_kExt2 : type_of% @Pz.kExt2.eq_1 := @Pz.kExt2.eq_1
theorem q_kStore : type_of% @Pz.kStore.eq_1 := @Pz.kStore.eq_1
theorem q_kSt3 : type_of% @Pz.kSt3.eq_1 := @Pz.kSt3.eq_1
theorem q_kSt4 : type_of% @Pz.kSt4.eq_1 := @Pz.kSt4.eq_1
theorem q_kSt5 : type_of% @Pz.kSt5.eq_1 := @Pz.kSt5.eq_1
theorem q_kPut : type_of% @Pz.kPut.eq_1 := @Pz.kPut.eq_1
theorem q_kFor : type_of% @Pz.kFor.eq_1 := @Pz.kFor.eq_1
end Pz
/-! P4i: short texts, small numbers, places of lists. -/
namespace Pz
open PySem
theorem take_next {α : Type} {xs : List α} {j : Nat} {x : α} (h : xs[j]? = some x) : xs.take (j + 1) = xs.take j ++ [x] ∧ (xs.take j).length = j := by
  obtain ⟨hl, hx⟩ := List.getElem?_eq_some_iff.1 h
  refine ⟨?_, ?_⟩
  · rw [← hx]; exact (List.take_append_getElem hl).symm
  · rw [List.length_take]; omega
theorem st_ints {ns : List Int} {i x : Int} (h0 : 0 ≤ i) (h1 : i < ns.length) : storeT (.int i) (.leaf (.int x)) (.lst (tInts ns)) = some ((), .lst (tInts (ns.set i.toNat x))) := by
  have e : L2.ixN (tInts ns).length i = some i.toNat := by
    unfold L2.ixN
    rw [if_pos h0, tInts_len, if_pos h1]
  show (match L2.ixN (tInts ns).length i with | some n => some ((), T.lst ((tInts ns).set n (.leaf (.int x)))) | none => none) = _
  rw [e]
  simp only [tInts, List.map_set]
/-- a good short text -/
def Okx (b : Nat) (x : Str) : Prop := PyData.strOk x = true ∧ x.length ≤ b
theorem okx_app {a b : Nat} {x y : Str} (h : Okx a x) (k : Okx b y) : Okx (a + b) (x ++ y) := by
  obtain ⟨h1, h2⟩ := h
  obtain ⟨k1, k2⟩ := k
  unfold PyData.strOk at h1 k1
  refine ⟨?_, ?_⟩
  · show (x.cps ++ y.cps).all _ = true
    rw [Array.all_append, h1, k1]; rfl
  · show (x.cps ++ y.cps).size ≤ _
    rw [Array.size_append]
    unfold Str.length at h2 k2
    omega
theorem okx_up {a b : Nat} {x : Str} (h : Okx a x) (k : a ≤ b) : Okx b x := ⟨h.1, Nat.le_trans h.2 k⟩
theorem bin_addS {a b : Nat} {x y : Str} (h : Okx a x) (k : Okx b y) (z : a + b ≤ 16777216) : binOp .add (.leaf (.str x)) (.leaf (.str y)) = some (.leaf (.str (x ++ y))) := by
  show (if Op.add = .add ∧ x.length + y.length ≤ sizeLine then some (T.leaf (.str (x ++ y))) else none) = _
  rw [if_pos ⟨rfl, by rw [szE]; have := h.2; have := k.2; omega⟩]
/-- a sign out of a text -/
theorem at_sign {z : Str} {i : Int} (hz : PyData.strOk z = true) (hl : z.length ≤ 16777216) (h0 : 0 ≤ i) (h1 : i < z.length) : ∃ x, Okx 1 x ∧ idxT (.leaf (.str z)) (.int i) = some (.leaf (.str x)) := by
  have hn : i.toNat < z.cps.toList.length := by
    unfold Str.length at h1
    rw [Array.length_toList]; omega
  refine ⟨⟨#[z.cps.toList[i.toNat]]⟩, ⟨?_, Nat.le_refl _⟩, ?_⟩
  · unfold PyData.strOk at hz ⊢
    rw [Array.all_eq_true] at hz
    have := hz i.toNat (by rw [← Array.length_toList]; exact hn)
    simpa using this
  · show (if z.length ≤ sizeLine then (L2.atI z.cps.toList i).map fun c => T.leaf (.str ⟨#[c]⟩) else none) = _
    rw [if_pos (by rw [szE]; exact hl), atI_nat h0, List.getElem?_eq_getElem hn]; rfl
theorem strs_small : (List.range 1000).all (fun j => PyData.strOk (Str.ofString (toString (j : Int))) && decide ((Str.ofString (toString (j : Int))).length ≤ 3) && decide ((j : Int).natAbs.log2 < 1920)) = true := by decide +kernel
theorem str_small {i : Int} (h0 : 0 ≤ i) (h1 : i < 1000) : ∃ x, Okx 3 x ∧ fun1 .str (.leaf (.int i)) = some (.leaf (.str x)) := by
  obtain ⟨j, rfl⟩ := Int.eq_ofNat_of_zero_le h0
  have := List.all_eq_true.1 strs_small j (by rw [List.mem_range]; omega)
  simp only [Bool.and_eq_true, decide_eq_true_eq] at this
  refine ⟨_, ⟨this.1.1, this.1.2⟩, ?_⟩
  show (if (j : Int).natAbs.log2 < 1920 then some (T.leaf (.str (Str.ofString (toString (j : Int))))) else none) = _
  rw [if_pos this.2]
theorem rng_at {i : Int} (h : i < 4611686018427387904) (h0 : 0 ≤ i) : big62 i = true := big62_of (by omega) h
/-- a list out of written parts, by a drawn number -/
theorem pick3 {a b c : T} {v : Int} (h0 : 0 ≤ v) (h1 : v < 3) : ∃ x, (x = a ∨ x = b ∨ x = c) ∧ idxT (.lst [a, b, c]) (.int v) = some x := by
  have : v = 0 ∨ v = 1 ∨ v = 2 := by omega
  rcases this with rfl | rfl | rfl
  · exact ⟨a, .inl rfl, rfl⟩
  · exact ⟨b, .inr (.inl rfl), rfl⟩
  · exact ⟨c, .inr (.inr rfl), rfl⟩
theorem pick_lst {ds : List D} {v : Int} (h0 : 0 ≤ v) (h1 : v < ds.length) : ∃ x, x ∈ ds ∧ idxT (.lst (ds.map .leaf)) (.int v) = some (.leaf x) := by
  have hn : v.toNat < ds.length := by omega
  refine ⟨ds[v.toNat], List.getElem_mem hn, ?_⟩
  show L2.atI (ds.map T.leaf) v = _
  rw [atI_nat h0, List.getElem?_map, List.getElem?_eq_getElem hn]; rfl
/-! ### ranges with two and three parts -/
def rng2D (i j : Int) : List D := (List.range (j - i).toNat).map fun (k : Nat) => .int (i + (k : Int))
def rng3D (i j : Int) : List D := (List.range (i - j).toNat).map fun (k : Nat) => .int (i - (k : Int))
theorem rng2D_len {i j : Int} : (rng2D i j).length = (j - i).toNat := by unfold rng2D; rw [List.length_map, List.length_range]
theorem rng3D_len {i j : Int} : (rng3D i j).length = (i - j).toNat := by unfold rng3D; rw [List.length_map, List.length_range]
theorem map_range_get {α : Type} {n k : Nat} {f : Nat → α} {d : α} (h : ((List.range n).map f)[k]? = some d) : k < n ∧ d = f k := by
  rw [List.getElem?_map] at h
  rcases Nat.lt_or_ge k n with h1 | h1
  · rw [List.getElem?_range h1] at h
    simp only [Option.map_some, Option.some.injEq] at h
    exact ⟨h1, h.symm⟩
  · rw [List.getElem?_eq_none (by rw [List.length_range]; exact h1)] at h
    cases h
theorem rng2D_get {i j : Int} {k : Nat} {d : D} (h : (rng2D i j)[k]? = some d) : (k : Int) < j - i ∧ d = .int (i + (k : Int)) := by
  obtain ⟨h1, h2⟩ := map_range_get h
  exact ⟨by omega, h2⟩
theorem rng3D_get {i j : Int} {k : Nat} {d : D} (h : (rng3D i j)[k]? = some d) : (k : Int) < i - j ∧ d = .int (i - (k : Int)) := by
  obtain ⟨h1, h2⟩ := map_range_get h
  exact ⟨by omega, h2⟩
section
variable {φ : Nat → List T → FR} {ρ : Rho} {L : List D → Rho → Prop}
def kR22 (L : List D → Rho → Prop) (i : Int) (ρ : Rho) (j : Int) : Prop := (big62 i = true ∧ big62 j = true) ∧ L (rng2D i j) ρ
def kR21 (x : T) (L : List D → Rho → Prop) (y : T) (ρ : Rho) : Prop := wO (asInt x) fun i => wO (asInt y) (kR22 L i ρ)
def kR20 (φ : Nat → List T → FR) (b : E) (L : List D → Rho → Prop) (x : T) (ρ : Rho) : Prop := wE φ .rd b ρ (kR21 x L)
theorem wI_rng2 {a b : E} : wI φ (.rng2 a b) ρ L = wE φ .rd a ρ (kR20 φ b L) := by
  unfold wI wE
  rw [evIt]
  refine wR_bindK fun x ρ1 => ?_
  unfold kR20 wE
  refine wR_bindK fun y ρ2 => ?_
  unfold kR21 kR22
  cases asInt x with
  | none => rfl
  | some i =>
    cases asInt y with
    | none => rfl
    | some j => exact wR_if
theorem kR20_at {b : E} {x : T} : kR20 φ b L x ρ = wE φ .rd b ρ (kR21 x L) := rfl
theorem kR21_at {i j : Int} : kR21 (.leaf (.int i)) L (.leaf (.int j)) ρ = ((big62 i = true ∧ big62 j = true) ∧ L (rng2D i j) ρ) := rfl
def kR32 (L : List D → Rho → Prop) (i : Int) (ρ : Rho) (j : Int) : Prop := (big62 i = true ∧ big62 j = true) ∧ L (rng3D i j) ρ
def kR31 (x : T) (L : List D → Rho → Prop) (y : T) (ρ : Rho) : Prop := wO (asInt x) fun i => wO (asInt y) (kR32 L i ρ)
def kR30 (φ : Nat → List T → FR) (b : E) (L : List D → Rho → Prop) (x : T) (ρ : Rho) : Prop := wE φ .rd b ρ (kR31 x L)
theorem wI_rng3 {a b : E} : wI φ (.rng3 a b (-1)) ρ L = wE φ .rd a ρ (kR30 φ b L) := by
  unfold wI wE
  rw [evIt]
  refine wR_bindK fun x ρ1 => ?_
  unfold kR30 wE
  refine wR_bindK fun y ρ2 => ?_
  unfold kR31 kR32
  cases asInt x with
  | none => rfl
  | some i =>
    cases asInt y with
    | none => rfl
    | some j =>
      simp only [wO_some, and_true]
      exact wR_if
theorem kR30_at {b : E} {x : T} : kR30 φ b L x ρ = wE φ .rd b ρ (kR31 x L) := rfl
theorem kR31_at {i j : Int} : kR31 (.leaf (.int i)) L (.leaf (.int j)) ρ = ((big62 i = true ∧ big62 j = true) ∧ L (rng3D i j) ρ) := rfl
end
theorem big_m1 : big62 (-1) = true := by decide
/-! ### comprehensions whose parts hang on nothing -/
section
variable {f : D → Rho → R (Option T)} {ρ : Rho} {K : List T → Rho → Prop}
theorem compM_map {α : Type} {xs : List α} {c : α → D} (u : α → T) (h : ∀ x ∈ xs, wR (f (c x) ρ) (kEq (some (u x)) ρ)) (k : K (xs.map u) ρ) : wR (compM f (xs.map c) ρ) K := by
  have : compM f (xs.map c) ρ = .ok (xs.map u) ρ := by
    clear k
    induction xs with
    | nil => rfl
    | cons x r ih =>
      rw [List.map_cons, compM, wR_eq (h x (List.mem_cons_self ..))]
      simp only [R.bind]
      rw [ih fun y hy => h y (List.mem_cons_of_mem _ hy)]
      rfl
  exact wR_mk this k
theorem compM_filt {α : Type} {xs : List α} {c : α → D} (p : α → Bool) (u : α → T) (h : ∀ x ∈ xs, wR (f (c x) ρ) (kEq (if p x = true then some (u x) else none) ρ)) (k : K ((xs.filter p).map u) ρ) : wR (compM f (xs.map c) ρ) K := by
  have : compM f (xs.map c) ρ = .ok ((xs.filter p).map u) ρ := by
    clear k
    induction xs with
    | nil => rfl
    | cons x r ih =>
      rw [List.map_cons, compM, wR_eq (h x (List.mem_cons_self ..))]
      simp only [R.bind]
      rw [ih fun y hy => h y (List.mem_cons_of_mem _ hy), List.filter_cons]
      cases p x <;> rfl
  exact wR_mk this k
theorem compM_rng {i : Int} (u : Nat → T) (h : ∀ j : Nat, (j : Int) < i → wR (f (.int (j : Int)) ρ) (kEq (some (u j)) ρ)) (k : K ((List.range i.toNat).map u) ρ) : wR (compM f (rngD i) ρ) K :=
  compM_map u (fun j hj => h j (by rw [List.mem_range] at hj; omega)) k
end
/-! ### lists of frozen parts -/
theorem idx_lstN {ds : List D} {j : Nat} {d : D} (h : ds[j]? = some d) : idxT (.lst (ds.map .leaf)) (.int (j : Int)) = some (.leaf d) := by
  show L2.atI (ds.map T.leaf) (j : Int) = _
  rw [atI_nat (by omega), Int.toNat_natCast, List.getElem?_map, h]; rfl
theorem idx_last {ts : List T} {t : T} : idxT (.lst (ts ++ [t])) (.int (-1)) = some t := by
  show L2.atI (ts ++ [t]) (-1) = _
  unfold L2.atI L2.ixN
  rw [if_neg (by omega), if_pos (by rw [List.length_append]; simp; omega)]
  simp only [Option.bind_some, List.length_append, List.length_cons, List.length_nil]
  rw [show (-1 + ((ts.length + (0 + 1) : Nat) : Int)).toNat = ts.length by omega, List.getElem?_append_right (Nat.le_refl _), Nat.sub_self]
  rfl
theorem slice_lst1 {ds : List D} : sliceT (.lst (ds.map .leaf)) (some 1) none = some (.lst ((ds.drop 1).map .leaf)) := by
  show (match (match leaves (ds.map T.leaf) with | some ds => some (PyData.list ds) | none => none) with | some (.list xs) => some (T.lst (((xs.drop (HT.sIx xs.length 0 (some 1))).take (HT.sIx xs.length xs.length none - HT.sIx xs.length 0 (some 1))).map .leaf)) | _ => none) = _
  rw [leaves_map]
  simp only
  congr 3
  show (ds.drop (if (1 : Int) < 0 then (1 + (ds.length : Int)).toNat else min (1 : Int).toNat ds.length)).take (ds.length - (if (1 : Int) < 0 then (1 + (ds.length : Int)).toNat else min (1 : Int).toNat ds.length)) = _
  rw [if_neg (by omega)]
  rw [List.take_of_length_le (by rw [List.length_drop]; omega)]
  cases ds with
  | nil => rfl
  | cons x r => simp
section
variable {φ : Nat → List T → FR} {m : M} {ρ : Rho} {K : T → Rho → Prop}
def kLrng (tup : Bool) (K : T → Rho → Prop) (t : T) (ρ : Rho) : Prop := wO (asInt t) fun i => (big62 i = true ∧ i ≤ 16777216) ∧ K (if tup = true then .leaf (.tuple (rangeD i)) else .lst ((rangeD i).map .leaf)) ρ
theorem wE_lrng (h : m ≠ .cd) {tup : Bool} {a : E} : wE φ m (.lrng tup a) ρ K = wE φ .rd a ρ (kLrng tup K) := by
  unfold wE
  rw [ev, finR h]
  refine wR_bindK fun t ρ1 => ?_
  unfold kLrng
  cases asInt t with
  | none => rfl
  | some i =>
    simp only [wO_some]
    cases tup with
    | true => exact wR_iff
    | false => exact wR_iff
theorem lrng_t {i : Int} : kLrng true K (.leaf (.int i)) ρ = ((big62 i = true ∧ i ≤ 16777216) ∧ K (.leaf (.tuple (rangeD i))) ρ) := rfl
theorem lrng_l {i : Int} : kLrng false K (.leaf (.int i)) ρ = ((big62 i = true ∧ i ≤ 16777216) ∧ K (.lst ((rangeD i).map .leaf)) ρ) := rfl
theorem wEs_lrng {K : List T → Rho → Prop} {es0 : Es} {tup : Bool} {a : E} : wEs φ (.cons (.lrng tup a) es0) ρ K = wE φ .mv (.lrng tup a) ρ (kEs φ es0 K) := wEs_cons fun _ z => by cases z
end
theorem rangeD_len {i : Int} : (rangeD i).length = i.toNat := by unfold rangeD; rw [List.length_map, List.length_range]
theorem pop_last {ts : List T} {t : T} : popT none (.lst (ts ++ [t])) = some (t, .lst ts) := by
  show (match (ts ++ [t]).getLast? with | some u => some (u, T.lst (ts ++ [t]).dropLast) | none => none) = _
  rw [List.getLast?_append, List.dropLast_concat]; rfl
theorem tInts_app {xs : List Int} {x : Int} : tInts (xs ++ [x]) = tInts xs ++ [.leaf (.int x)] := by unfold tInts; rw [List.map_append]; rfl
/-! ### a list of four parts that is changed within -/
section
variable {a b c d u : T}
theorem pl4_0 : plOf (.lst [a, b, c, d]) (.int 0) = some (.at 0) := rfl
theorem pl4_3 : plOf (.lst [a, b, c, d]) (.int 3) = some (.at 3) := rfl
theorem ch4_0 : child (.lst [a, b, c, d]) (.at 0) = some a := rfl
theorem ch4_3 : child (.lst [a, b, c, d]) (.at 3) = some d := rfl
theorem sc4_0 : setChild (.lst [a, b, c, d]) (.at 0) u = some (.lst [u, b, c, d]) := rfl
theorem sc4_3 : setChild (.lst [a, b, c, d]) (.at 3) u = some (.lst [a, b, c, u]) := rfl
theorem il4_3 : idxT (.lst [a, b, c, d]) (.int 3) = some d := rfl
end
theorem run_succ {tb : Nat → Option Fn} {n f : Nat} {ts : List T} {d : Fn} (h : tb f = some d) (hl : ts.length = d.np) : run tb (n + 1) f ts = frOf ts (evS (run tb n) (ioOf 0 ts) d.body (ts.map some ++ List.replicate (d.nv - d.np) none)) := by
  show (match tb f with | some d => if ts.length = d.np then frOf ts (evS (run tb n) (ioOf 0 ts) d.body (ts.map some ++ List.replicate (d.nv - d.np) none)) else .bad | none => .bad) = _
  rw [h]
  simp only
  rw [if_pos hl]
end Pz
namespace L
open PySem Pz
def top (i : Nat) : Stmt := PySem.Challenge.pw_fewwrongs_k13_rows_of_boxes.main.body.getD i (.Pass ⟨0, 0, 0, 0⟩)
def b_full_box : Pz.S :=
    (.ret (.bin .mul (.tup (.cons (.glob "EITHER" (.tuple [(.int 0), (.int 1)])) .nil)) (.f1 .len (.var 0))))
def d_full_box : DefI := { x := "full_box", qual := "full_box", st := top 2, N := ["setting"], np := 1, kw := [], body := b_full_box }
def b_box_size : Pz.S :=
    (.set 1 (.int 1)
    (.for (.v 2) (.seq (.var 0))
    (.set 1 (.bin .mul (.var 1) (.f1 .len (.var 2)))
    .nil)
    (.ret (.var 1))))
def d_box_size : DefI := { x := "box_size", qual := "box_size", st := top 3, N := ["box", "product", "part"], np := 1, kw := [(0, ["box"], [0])], body := b_box_size }
def b_in_box : Pz.S :=
    (.ret (.f1 .all (.comp (.cmp .isin (.var 2) (.var 3)) (.tup [(.v 2), (.v 3)]) (.zip (.cons (.var 1) (.cons (.var 0) .nil))) .nop)))
def d_in_box : DefI := { x := "in_box", qual := "in_box", st := top 4, N := ["box", "row", "value", "part"], np := 2, kw := [(0, ["row", "box"], [1, 0])], body := b_in_box }
def b_least_row : Pz.S :=
    (.ret (.f1 .tuple (.comp (.idx (.var 1) (.int 0)) (.v 1) (.seq (.var 0)) .nop)))
def d_least_row : DefI := { x := "least_row", qual := "least_row", st := top 5, N := ["box", "part"], np := 1, kw := [(0, ["box"], [0])], body := b_least_row }
def b__law_basket : Pz.S :=
    (.set 1 (.int 30071)
    (.set 2 (.lst .nil)
    (.for (.v 3) (.seq (.slice (.var 0) .nop (.int 44)))
    (.set 7 (.bin .mod (.f1 .abs (.f1 .int (.var 3))) (.bin .shl (.int 1) (.int 2000)))
    (.set 1 (.bin .mod (.f1 .int (.bin .add (.bin .add (.bin .mul (.var 1) (.int 20011)) (.bin .mod (.var 7) (.int 1000253))) (.int 9))) (.int 2147483353))
    (.ite (.cmp .ge (.var 7) (.bin .pow (.int 10) (.int 15)))
    (.mut 2 [] .insert (.cons (.int 0) (.cons (.var 7) .nil))
    .nil)
    .nil
    .nil)))
    (.set 4 (.lst .nil)
    (.set 5 (.var 1)
    (.for (.v 6) (.rng1 (.int 7))
    (.mut 4 [] .append (.cons (.bin .mod (.f1 .int (.var 5)) (.int 10)) .nil)
    (.set 5 (.bin .add (.bin .fdiv (.var 5) (.int 7)) (.bin .mul (.int 11) (.var 6)))
    .nil))
    (.ret (.lst (.cons (.var 2) (.cons (.var 1) (.cons (.int 0) (.cons (.var 4) .nil))))))))))))
def d__law_basket : DefI := { x := "_law_basket", qual := "_law_basket", st := top 7, N := ["script", "straw", "eggs", "cell", "wonts", "rest", "place", "size"], np := 1, kw := [], body := b__law_basket }
def b__law_taken : Pz.S :=
    (.ite (.cmp .lt (.var 2) (.int 2))
    (.ret (.int 0))
    .nil
    (.store 0 [] (.int 2) (.bin .add (.idx (.var 0) (.int 2)) (.int 1))
    (.ite (.cmp .gt (.f1 .len (.idx (.var 0) (.int 0))) (.int 0))
    (.set 4 (.pop 0 [.i 0] .nop)
    (.ite (.cmp .ge (.var 4) (.var 2))
    (.mut 0 [.i 0] .append (.cons (.bin .fdiv (.var 4) (.var 2)) .nil)
    .nil)
    .nil
    (.ret (.bin .mod (.f1 .int (.var 4)) (.var 2)))))
    .nil
    (.store 0 [] (.int 1) (.bin .mod (.f1 .int (.bin .add (.bin .add (.bin .add (.bin .mul (.idx (.var 0) (.int 1)) (.int 36913)) (.bin .mul (.idx (.var 0) (.int 2)) (.int 5987))) (.bin .mul (.var 1) (.int 19))) (.int 7))) (.int 2147483353))
    (.set 3 (.idx (.idx (.var 0) (.int 3)) (.var 1))
    (.ite (.cmp .eq (.var 3) (.int 0))
    (.ret (.int 0))
    .nil
    (.ite (.cmp .eq (.var 3) (.int 1))
    (.ret (.bin .sub (.var 2) (.int 1)))
    .nil
    (.ret (.bin .mod (.f1 .int (.bin .fdiv (.idx (.var 0) (.int 1)) (.int 43))) (.var 2))))))))))
def d__law_taken : DefI := { x := "_law_taken", qual := "_law_taken", st := top 8, N := ["basket", "place", "many", "wont", "size"], np := 3, kw := [], body := b__law_taken }
def b__law_box : Pz.S :=
    (.set 2 (.call 5 (.cons (.var 0) (.cons (.int 0) (.cons (.int 4) .nil))))
    (.set 3 (.lst .nil)
    (.for (.v 4) (.rng1 (.var 1))
    (.set 5 (.call 5 (.cons (.var 0) (.cons (.int 1) (.cons (.int 3) .nil))))
    (.set 6 (.idx (.tup (.cons (.cmp .gt (.var 5) (.int 0)) (.cons (.cmp .eq (.var 5) (.int 0)) (.cons (.bl false) (.cons (.cmp .eq (.var 5) (.int 1)) .nil))))) (.var 2))
    (.mut 3 [] .append (.cons (.ite (.var 6) (.tup (.cons (.int 0) (.cons (.int 1) .nil))) (.tup (.cons (.call 5 (.cons (.var 0) (.cons (.int 2) (.cons (.int 2) .nil)))) .nil))) .nil)
    .nil)))
    (.ret (.f1 .tuple (.var 3))))))
def d__law_box : DefI := { x := "_law_box", qual := "_law_box", st := top 9, N := ["basket", "lamps", "way", "box", "lamp", "free", "both"], np := 2, kw := [], body := b__law_box }
def b__law_members : Pz.S :=
    (.set 1 (.lst .nil)
    (.set 2 (.comp (.idx (.var 6) (.int 0)) (.v 6) (.seq (.var 0)) .nop)
    (.for (.v 3) (.rng1 (.bin .shl (.int 1) (.f1 .len (.var 0))))
    (.mut 1 [] .append (.cons (.f1 .tuple (.var 2)) .nil)
    (.set 4 (.bin .sub (.f1 .len (.var 0)) (.int 1))
    (.for (.v 5) (.rng1 (.f1 .len (.var 0)))
    (.ite (.or (.cmp .lt (.var 4) (.int 0)) (.cmp .lt (.idx (.var 2) (.var 4)) (.idx (.idx (.var 0) (.var 4)) (.neg (.int 1)))))
    .brk
    .nil
    (.store 2 [] (.var 4) (.idx (.idx (.var 0) (.var 4)) (.int 0))
    (.set 4 (.bin .sub (.var 4) (.int 1))
    .nil)))
    (.ite (.cmp .lt (.var 4) (.int 0))
    .brk
    .nil
    (.store 2 [] (.var 4) (.int 1)
    .nil)))))
    (.ret (.var 1)))))
def d__law_members : DefI := { x := "_law_members", qual := "_law_members", st := top 10, N := ["box", "rows", "row", "lap", "at", "step", "values"], np := 1, kw := [], body := b__law_members }
def b__law_every : Pz.S :=
    (.ret (.comp (.f1 .tuple (.comp (.bin .band (.bin .shr (.var 1) (.bin .sub (.bin .sub (.var 0) (.int 1)) (.var 2))) (.int 1)) (.v 2) (.rng1 (.var 0)) .nop)) (.v 1) (.rng1 (.bin .shl (.int 1) (.var 0))) .nop))
def d__law_every : DefI := { x := "_law_every", qual := "_law_every", st := top 11, N := ["lamps", "number", "at"], np := 1, kw := [], body := b__law_every }
def b__law_number : Pz.S :=
    (.ret (.and (.isi (.var 0) .int) (.and (.not (.isi (.var 0) .bool)) (.cmp .eq (.var 0) (.var 1)))))
def d__law_number : DefI := { x := "_law_number", qual := "_law_number", st := top 12, N := ["told", "due"], np := 2, kw := [], body := b__law_number }
def b__law_truth : Pz.S :=
    (.ret (.and (.isi (.var 0) .bool) (.cmp .eq (.var 0) (.var 1))))
def d__law_truth : DefI := { x := "_law_truth", qual := "_law_truth", st := top 13, N := ["told", "due"], np := 2, kw := [], body := b__law_truth }
def b__law_row : Pz.S :=
    (.ite (.or (.not (.isi (.var 0) .tuple)) (.cmp .ne (.f1 .len (.var 0)) (.f1 .len (.var 1))))
    (.ret (.bl false))
    .nil
    (.ret (.cmp .eq (.f1 .len (.comp (.var 2) (.v 2) (.rng1 (.f1 .len (.var 1))) (.not (.call 9 (.cons (.idx (.var 0) (.var 2)) (.cons (.idx (.var 1) (.var 2)) .nil)))))) (.int 0))))
def d__law_row : DefI := { x := "_law_row", qual := "_law_row", st := top 14, N := ["told", "due", "at"], np := 2, kw := [], body := b__law_row }
def b__law_asked : Pz.S :=
    (.set 1 (.call 7 (.cons (.var 0) .nil))
    (.ite (.or (.not (.call 9 (.cons (.call 1 (.cons (.var 0) .nil)) (.cons (.f1 .len (.var 1)) .nil)))) (.not (.call 11 (.cons (.call 3 (.cons (.var 0) .nil)) (.cons (.idx (.var 1) (.int 0)) .nil)))))
    (.ret (.int 0))
    .nil
    (.for (.v 2) (.seq (.call 8 (.cons (.f1 .len (.var 0)) .nil)))
    (.ite (.not (.call 10 (.cons (.call 2 (.cons (.var 0) (.cons (.var 2) .nil))) (.cons (.cmp .isin (.var 2) (.var 1)) .nil))))
    (.ret (.int 0))
    .nil
    .nil)
    (.ret (.f1 .len (.var 1))))))
def d__law_asked : DefI := { x := "_law_asked", qual := "_law_asked", st := top 15, N := ["box", "members", "row"], np := 1, kw := [], body := b__law_asked }
def b__law_changed : Pz.S :=
    (.set 2 (.f1 .len (.var 1))
    (.set 3 (.call 5 (.cons (.var 0) (.cons (.int 3) (.cons (.var 2) .nil))))
    (.for (.v 4) (.seq (.tup (.cons (.tup (.cons (.int 0) .nil)) (.cons (.tup (.cons (.int 1) .nil)) (.cons (.tup (.cons (.int 0) (.cons (.int 1) .nil))) .nil)))))
    (.set 5 (.bin .add (.bin .add (.slice (.var 1) .nop (.var 3)) (.tup (.cons (.var 4) .nil))) (.slice (.var 1) (.bin .add (.var 3) (.int 1)) .nop))
    (.ite (.cmp .eq (.call 12 (.cons (.var 5) .nil)) (.int 0))
    (.ret (.bl false))
    .nil
    (.for (.v 6) (.seq (.call 7 (.cons (.var 1) .nil)))
    (.ite (.not (.call 10 (.cons (.callK 2 .nil (.cons (.var 6) (.cons (.var 5) .nil)) ["row", "box"] [1, 0]) (.cons (.cmp .isin (.idx (.var 6) (.var 3)) (.var 4)) .nil))))
    (.ret (.bl false))
    .nil
    .nil)
    (.set 7 (.bin .mul (.bin .fdiv (.f1 .len (.call 7 (.cons (.var 1) .nil))) (.f1 .len (.idx (.var 1) (.var 3)))) (.f1 .len (.var 4)))
    (.ite (.or (.not (.call 9 (.cons (.callK 1 .nil (.cons (.var 5) .nil) ["box"] [0]) (.cons (.var 7) .nil)))) (.not (.call 11 (.cons (.callK 3 .nil (.cons (.var 5) .nil) ["box"] [0]) (.cons (.idx (.call 7 (.cons (.var 5) .nil)) (.int 0)) .nil)))))
    (.ret (.bl false))
    .nil
    .nil)))))
    (.ret (.bl true)))))
def d__law_changed : DefI := { x := "_law_changed", qual := "_law_changed", st := top 16, N := ["basket", "box", "lamps", "at", "values", "other", "row", "many"], np := 2, kw := [], body := b__law_changed }
def b__law_halved : Pz.S :=
    (.set 2 (.f1 .tuple (.comp (.tup (.cons (.bin .add (.str "n") (.f1 .str (.var 10))) (.cons (.idx (.tup (.cons (.str "sure") (.cons (.str "loose") (.cons (.str "stuck") .nil)))) (.call 5 (.cons (.var 0) (.cons (.int 4) (.cons (.int 3) .nil))))) .nil))) (.v 10) (.rng1 (.var 1)) .nop))
    (.set 3 (.call 0 (.cons (.var 2) .nil))
    (.ite (.or (.not (.call 11 (.cons (.call 3 (.cons (.call 0 (.cons (.var 2) .nil)) .nil)) (.cons (.bin .mul (.tup (.cons (.int 0) .nil)) (.var 1)) .nil)))) (.not (.call 9 (.cons (.call 1 (.cons (.call 0 (.cons (.var 2) .nil)) .nil)) (.cons (.bin .shl (.int 1) (.var 1)) .nil)))))
    (.ret (.bl false))
    .nil
    (.set 3 (.bin .mul (.tup (.cons (.tup (.cons (.int 0) (.cons (.int 1) .nil))) .nil)) (.var 1))
    (.set 4 (.lrng false (.var 1))
    (.for (.v 5) (.rng1 (.var 1))
    (.set 7 (.pop 4 [] (.call 5 (.cons (.var 0) (.cons (.int 5) (.cons (.f1 .len (.var 4)) .nil)))))
    (.set 8 (.call 5 (.cons (.var 0) (.cons (.int 6) (.cons (.int 2) .nil))))
    (.set 9 (.f1 .tuple (.comp (.ite (.cmp .eq (.var 10) (.var 7)) (.bin .sub (.int 1) (.var 8)) (.idx (.idx (.var 3) (.var 10)) (.int 0))) (.v 10) (.rng1 (.var 1)) .nop))
    (.set 3 (.bin .add (.bin .add (.slice (.var 3) .nop (.var 7)) (.tup (.cons (.tup (.cons (.var 8) .nil)) .nil))) (.slice (.var 3) (.bin .add (.var 7) (.int 1)) .nop))
    (.ite (.or (.cmp .ne (.call 12 (.cons (.var 3) .nil)) (.bin .shl (.int 1) (.bin .sub (.bin .sub (.var 1) (.int 1)) (.var 5)))) (.not (.call 10 (.cons (.call 2 (.cons (.var 3) (.cons (.var 9) .nil))) (.cons (.bl false) .nil)))))
    (.ret (.bl false))
    .nil
    .nil)))))
    (.set 6 (.f1 .tuple (.comp (.idx (.var 11) (.int 0)) (.v 11) (.seq (.var 3)) .nop))
    (.ret (.and (.call 11 (.cons (.call 3 (.cons (.var 3) .nil)) (.cons (.var 6) .nil))) (.and (.call 10 (.cons (.call 2 (.cons (.var 3) (.cons (.var 6) .nil))) (.cons (.bl true) .nil))) (.call 9 (.cons (.call 1 (.cons (.var 3) .nil)) (.cons (.int 1) .nil)))))))))))))
def d__law_halved : DefI := { x := "_law_halved", qual := "_law_halved", st := top 17, N := ["basket", "lamps", "setting", "box", "left", "lap", "row", "at", "value", "gone", "lamp", "values"], np := 2, kw := [], body := b__law_halved }
def b__law_parted : Pz.S :=
    (.set 2 (.comp (.var 3) (.v 3) (.rng1 (.f1 .len (.var 1))) (.cmp .eq (.f1 .len (.idx (.var 1) (.var 3))) (.int 2)))
    (.ite (.cmp .eq (.f1 .len (.var 2)) (.int 0))
    (.ret (.call 9 (.cons (.call 1 (.cons (.var 1) .nil)) (.cons (.int 1) .nil))))
    .nil
    (.set 3 (.idx (.var 2) (.call 5 (.cons (.var 0) (.cons (.int 3) (.cons (.f1 .len (.var 2)) .nil)))))
    (.set 4 (.comp (.bin .add (.bin .add (.slice (.var 1) .nop (.var 3)) (.tup (.cons (.tup (.cons (.var 9) .nil)) .nil))) (.slice (.var 1) (.bin .add (.var 3) (.int 1)) .nop)) (.v 9) (.seq (.tup (.cons (.int 0) (.cons (.int 1) .nil)))) .nop)
    (.set 5 (.bin .add (.call 7 (.cons (.idx (.var 4) (.int 0)) .nil)) (.call 7 (.cons (.idx (.var 4) (.int 1)) .nil)))
    (.ite (.cmp .ne (.f1 .sorted (.var 5)) (.call 7 (.cons (.var 1) .nil)))
    (.ret (.bl false))
    .nil
    (.for (.v 6) (.seq (.var 4))
    (.ite (.not (.call 9 (.cons (.call 1 (.cons (.var 6) .nil)) (.cons (.bin .fdiv (.f1 .len (.var 5)) (.int 2)) .nil))))
    (.ret (.bl false))
    .nil
    .nil)
    (.for (.v 7) (.seq (.var 5))
    (.set 8 (.tup (.cons (.call 2 (.cons (.idx (.var 4) (.int 0)) (.cons (.var 7) .nil))) (.cons (.call 2 (.cons (.idx (.var 4) (.int 1)) (.cons (.var 7) .nil))) (.cons (.call 2 (.cons (.var 1) (.cons (.var 7) .nil))) .nil))))
    (.ite (.or (.not (.call 10 (.cons (.idx (.var 8) (.int 0)) (.cons (.cmp .eq (.idx (.var 7) (.var 3)) (.int 0)) .nil)))) (.or (.not (.call 10 (.cons (.idx (.var 8) (.int 1)) (.cons (.cmp .eq (.idx (.var 7) (.var 3)) (.int 1)) .nil)))) (.not (.call 10 (.cons (.idx (.var 8) (.int 2)) (.cons (.bl true) .nil))))))
    (.ret (.bl false))
    .nil
    .nil))
    (.ret (.and (.call 11 (.cons (.call 3 (.cons (.idx (.var 4) (.int 0)) .nil)) (.cons (.idx (.call 7 (.cons (.var 1) .nil)) (.int 0)) .nil))) (.call 11 (.cons (.call 3 (.cons (.idx (.var 4) (.int 1)) .nil)) (.cons (.idx (.call 7 (.cons (.idx (.var 4) (.int 1)) .nil)) (.int 0)) .nil)))))))))))))
def d__law_parted : DefI := { x := "_law_parted", qual := "_law_parted", st := top 18, N := ["basket", "box", "free", "at", "halves", "members", "half", "row", "told", "value"], np := 2, kw := [], body := b__law_parted }
def b__law_shared : Pz.S :=
    (.set 2 (.f1 .len (.var 1))
    (.set 3 (.call 6 (.cons (.var 0) (.cons (.var 2) .nil)))
    (.set 4 (.comp (.f1 .tuple (.comp (.var 10) (.v 10) (.seq (.idx (.var 1) (.var 9))) (.cmp .isin (.var 10) (.idx (.var 3) (.var 9))))) (.v 9) (.rng1 (.var 2)) .nop)
    (.set 5 (.comp (.var 6) (.v 6) (.seq (.call 7 (.cons (.var 1) .nil))) (.cmp .isin (.var 6) (.call 7 (.cons (.var 3) .nil))))
    (.for (.v 6) (.seq (.call 8 (.cons (.var 2) .nil)))
    (.set 8 (.tup (.cons (.call 2 (.cons (.var 1) (.cons (.var 6) .nil))) (.cons (.call 2 (.cons (.var 3) (.cons (.var 6) .nil))) .nil)))
    (.ite (.or (.not (.call 10 (.cons (.idx (.var 8) (.int 0)) (.cons (.cmp .isin (.var 6) (.call 7 (.cons (.var 1) .nil))) .nil)))) (.not (.call 10 (.cons (.idx (.var 8) (.int 1)) (.cons (.cmp .isin (.var 6) (.call 7 (.cons (.var 3) .nil))) .nil)))))
    (.ret (.bl false))
    .nil
    .nil))
    (.ite (.cmp .isin (.tup .nil) (.var 4))
    (.ret (.and (.cmp .eq (.f1 .len (.var 5)) (.int 0)) (.call 10 (.cons (.call 2 (.cons (.var 3) (.cons (.idx (.call 7 (.cons (.var 1) .nil)) (.int 0)) .nil))) (.cons (.bl false) .nil)))))
    .nil
    (.set 7 (.f1 .tuple (.var 4))
    (.ret (.and (.call 9 (.cons (.call 1 (.cons (.var 7) .nil)) (.cons (.f1 .len (.var 5)) .nil))) (.and (.call 11 (.cons (.call 3 (.cons (.var 7) .nil)) (.cons (.idx (.var 5) (.int 0)) .nil))) (.call 10 (.cons (.call 2 (.cons (.var 7) (.cons (.idx (.var 5) (.neg (.int 1))) .nil))) (.cons (.bl true) .nil)))))))))))))
def d__law_shared : DefI := { x := "_law_shared", qual := "_law_shared", st := top 19, N := ["basket", "box", "lamps", "other", "values", "both", "row", "shared", "told", "at", "value"], np := 2, kw := [], body := b__law_shared }
def b__law_hand : Pz.S :=
    (.set 0 (.tup (.cons (.int 0) (.cons (.int 1) .nil)))
    (.set 1 (.tup (.cons (.tup (.cons (.int 0) .nil)) (.cons (.var 0) (.cons (.tup (.cons (.int 1) .nil)) (.cons (.var 0) .nil)))))
    (.ite (.or (.not (.call 9 (.cons (.call 1 (.cons (.var 1) .nil)) (.cons (.int 4) .nil)))) (.or (.not (.call 11 (.cons (.call 3 (.cons (.var 1) .nil)) (.cons (.tup (.cons (.int 0) (.cons (.int 0) (.cons (.int 1) (.cons (.int 0) .nil))))) .nil)))) (.not (.call 10 (.cons (.call 2 (.cons (.tup (.cons (.tup (.cons (.int 1) .nil)) .nil)) (.cons (.tup (.cons (.int 0) .nil)) .nil))) (.cons (.bl false) .nil))))))
    (.ret (.bl false))
    .nil
    (.set 2 (.lst (.cons (.tup (.cons (.var 1) (.cons (.tup (.cons (.int 0) (.cons (.int 1) (.cons (.int 1) (.cons (.int 1) .nil))))) (.cons (.bl true) .nil)))) (.cons (.tup (.cons (.var 1) (.cons (.tup (.cons (.int 1) (.cons (.int 0) (.cons (.int 1) (.cons (.int 0) .nil))))) (.cons (.bl false) .nil)))) (.cons (.tup (.cons (.var 1) (.cons (.tup (.cons (.int 0) (.cons (.int 0) (.cons (.int 0) (.cons (.int 0) .nil))))) (.cons (.bl false) .nil)))) (.cons (.tup (.cons (.tup (.cons (.tup (.cons (.int 1) .nil)) .nil)) (.cons (.tup (.cons (.int 1) .nil)) (.cons (.bl true) .nil)))) (.cons (.tup (.cons (.tup (.cons (.var 0) .nil)) (.cons (.tup (.cons (.int 0) .nil)) (.cons (.bl true) .nil)))) (.cons (.tup (.cons (.bin .mul (.tup (.cons (.var 0) .nil)) (.int 6)) (.cons (.tup (.cons (.int 1) (.cons (.int 0) (.cons (.int 1) (.cons (.int 1) (.cons (.int 0) (.cons (.int 0) .nil))))))) (.cons (.bl true) .nil)))) .nil)))))))
    (.set 2 (.bin .add (.var 2) (.lst (.cons (.tup (.cons (.tup (.cons (.tup (.cons (.int 1) .nil)) (.cons (.tup (.cons (.int 0) .nil)) (.cons (.var 0) .nil)))) (.cons (.tup (.cons (.int 1) (.cons (.int 0) (.cons (.int 1) .nil)))) (.cons (.bl true) .nil)))) (.cons (.tup (.cons (.tup (.cons (.tup (.cons (.int 1) .nil)) (.cons (.tup (.cons (.int 0) .nil)) (.cons (.var 0) .nil)))) (.cons (.tup (.cons (.int 1) (.cons (.int 1) (.cons (.int 1) .nil)))) (.cons (.bl false) .nil)))) (.cons (.tup (.cons (.bin .mul (.tup (.cons (.tup (.cons (.int 0) .nil)) .nil)) (.int 6)) (.cons (.tup (.cons (.int 0) (.cons (.int 0) (.cons (.int 0) (.cons (.int 0) (.cons (.int 0) (.cons (.int 1) .nil))))))) (.cons (.bl false) .nil)))) (.cons (.tup (.cons (.bin .mul (.tup (.cons (.tup (.cons (.int 0) .nil)) .nil)) (.int 6)) (.cons (.bin .mul (.tup (.cons (.int 0) .nil)) (.int 6)) (.cons (.bl true) .nil)))) .nil))))))
    (.for (.tup [(.v 4), (.v 5), (.v 6)]) (.seq (.var 2))
    (.ite (.not (.call 10 (.cons (.call 2 (.cons (.var 4) (.cons (.var 5) .nil))) (.cons (.var 6) .nil))))
    (.ret (.bl false))
    .nil
    .nil)
    (.set 3 (.lst (.cons (.tup (.cons (.bin .mul (.tup (.cons (.var 0) .nil)) (.int 6)) (.cons (.int 64) (.cons (.bin .mul (.tup (.cons (.int 0) .nil)) (.int 6)) .nil)))) (.cons (.tup (.cons (.bin .mul (.tup (.cons (.tup (.cons (.int 1) .nil)) .nil)) (.int 6)) (.cons (.int 1) (.cons (.bin .mul (.tup (.cons (.int 1) .nil)) (.int 6)) .nil)))) (.cons (.tup (.cons (.tup (.cons (.tup (.cons (.int 1) .nil)) (.cons (.var 0) (.cons (.var 0) (.cons (.tup (.cons (.int 1) .nil)) (.cons (.var 0) .nil)))))) (.cons (.int 8) (.cons (.tup (.cons (.int 1) (.cons (.int 0) (.cons (.int 0) (.cons (.int 1) (.cons (.int 0) .nil)))))) .nil)))) (.cons (.tup (.cons (.tup (.cons (.var 0) (.cons (.tup (.cons (.int 1) .nil)) .nil))) (.cons (.int 2) (.cons (.tup (.cons (.int 0) (.cons (.int 1) .nil))) .nil)))) .nil)))))
    (.set 3 (.bin .add (.var 3) (.lst (.cons (.tup (.cons (.tup (.cons (.tup (.cons (.int 1) .nil)) .nil)) (.cons (.int 1) (.cons (.tup (.cons (.int 1) .nil)) .nil)))) (.cons (.tup (.cons (.bin .add (.bin .mul (.tup (.cons (.var 0) .nil)) (.int 5)) (.tup (.cons (.tup (.cons (.int 1) .nil)) .nil))) (.cons (.int 32) (.cons (.tup (.cons (.int 0) (.cons (.int 0) (.cons (.int 0) (.cons (.int 0) (.cons (.int 0) (.cons (.int 1) .nil))))))) .nil)))) .nil))))
    (.for (.tup [(.v 4), (.v 7), (.v 8)]) (.seq (.var 3))
    (.ite (.or (.not (.call 9 (.cons (.call 1 (.cons (.var 4) .nil)) (.cons (.var 7) .nil)))) (.or (.not (.call 11 (.cons (.call 3 (.cons (.var 4) .nil)) (.cons (.var 8) .nil)))) (.cmp .ne (.f1 .len (.call 7 (.cons (.var 4) .nil))) (.var 7))))
    (.ret (.bl false))
    .nil
    .nil)
    (.ret (.bl true)))))))))))
def d__law_hand : DefI := { x := "_law_hand", qual := "_law_hand", st := top 20, N := ["every", "box", "rows", "sizes", "some", "row", "due", "size", "least"], np := 0, kw := [], body := b__law_hand }
def b_law : Pz.S :=
    (.set 1 (.call 4 (.cons (.var 0) .nil))
    (.ite (.not (.call0 17))
    (.ret (.bl false))
    .nil
    (.for (.v 2) (.rng1 (.int 4))
    (.set 3 (.call 6 (.cons (.var 1) (.cons (.bin .add (.int 1) (.call 5 (.cons (.var 1) (.cons (.int 0) (.cons (.idx (.tup (.cons (.int 6) (.cons (.int 6) (.cons (.int 4) (.cons (.int 3) .nil))))) (.var 2)) .nil))))) .nil)))
    (.ite (.or (.cmp .eq (.call 12 (.cons (.var 3) .nil)) (.int 0)) (.or (.not (.call 13 (.cons (.var 1) (.cons (.var 3) .nil)))) (.or (.not (.call 15 (.cons (.var 1) (.cons (.var 3) .nil)))) (.not (.call 16 (.cons (.var 1) (.cons (.var 3) .nil)))))))
    (.ret (.bl false))
    .nil
    .nil))
    (.ret (.and (.cmp .gt (.call 12 (.cons (.call 6 (.cons (.var 1) (.cons (.int 6) .nil))) .nil)) (.int 0)) (.call 14 (.cons (.var 1) (.cons (.bin .add (.int 2) (.call 5 (.cons (.var 1) (.cons (.int 1) (.cons (.int 5) .nil))))) .nil))))))))
def d_law : DefI := { x := "law", qual := "law", st := top 21, N := ["script", "basket", "lap", "box"], np := 1, kw := [], body := b_law }
def tbl : Tbl := [d_full_box, d_box_size, d_in_box, d_least_row, d__law_basket, d__law_taken, d__law_box, d__law_members, d__law_every, d__law_number, d__law_truth, d__law_row, d__law_asked, d__law_changed, d__law_halved, d__law_parted, d__law_shared, d__law_hand, d_law]
def GLs : List (Str × D) := [("EITHER", (.tuple [(.int 0), (.int 1)]))]
end L
namespace L
open PySem Pz PySem.W
/-! ### boxes -/
inductive Part where
  | o | i | b
  deriving DecidableEq
def Part.vs : Part → List Int
  | .o => [0]
  | .i => [1]
  | .b => [0, 1]
abbrev Box := List Part
def partD (p : Part) : D := .tuple (p.vs.map .int)
def boxD (b : Box) : D := .tuple (b.map partD)
def rowD (r : List Int) : D := .tuple (r.map .int)
/-- the rows of a box, ascending -/
def rowsB : Box → List (List Int)
  | [] => [[]]
  | p :: r => p.vs.flatMap fun v => (rowsB r).map fun t => v :: t
def allB : Nat → List Box
  | 0 => [[]]
  | n + 1 => (allB n).flatMap fun b => [.o :: b, .i :: b, .b :: b]
def eqInts : List D → List Int → Bool
  | [], [] => true
  | .int a :: r, b :: s => decide (a = b) && eqInts r s
  | _, _ => false
def eqRows : List T → List (List Int) → Bool
  | [], [] => true
  | .leaf (.tuple ds) :: r, b :: s => eqInts ds b && eqRows r s
  | _, _ => false
def isRows (r : FR) (rs : List (List Int)) : Bool :=
  match r with
  | .ret (.lst ts) [none] => eqRows ts rs
  | _ => false
theorem eqInts_eq : ∀ {ds : List D} {ns : List Int}, eqInts ds ns = true → ds = ns.map .int
  | [], [], _ => rfl
  | [], _ :: _, h => by cases h
  | d :: r, [], h => by cases d <;> cases h
  | d :: r, n :: s, h => by
    cases d with
    | int a =>
      unfold eqInts at h
      simp only [Bool.and_eq_true, decide_eq_true_eq] at h
      rw [h.1, eqInts_eq h.2]; rfl
    | _ => cases h
theorem eqRows_eq : ∀ {ts : List T} {rs : List (List Int)}, eqRows ts rs = true → ts = (rs.map rowD).map .leaf
  | [], [], _ => rfl
  | [], _ :: _, h => by cases h
  | t :: r, [], h => by
    cases t with
    | leaf d => cases d <;> cases h
    | _ => cases h
  | t :: r, n :: s, h => by
    cases t with
    | leaf d =>
      cases d with
      | tuple ds =>
        unfold eqRows at h
        simp only [Bool.and_eq_true] at h
        rw [eqInts_eq h.1, eqRows_eq h.2]; rfl
      | _ => cases h
    | _ => cases h
theorem isRows_eq {r : FR} {rs : List (List Int)} (h : isRows r rs = true) : r = .ret (.lst ((rs.map rowD).map .leaf)) [none] := by
  unfold isRows at h
  split at h
  · rw [eqRows_eq h]
  · cases h
noncomputable def memR (φ : Nat → List T → FR) (b : Box) : FR := frOf [.leaf (boxD b)] (evS φ [] b__law_members [some (.leaf (boxD b)), none, none, none, none, none, none])
theorem allB_mem : ∀ (b : Box), b ∈ allB b.length
  | [] => by simp [allB]
  | p :: r => by
    have h := allB_mem r
    show p :: r ∈ (allB r.length).flatMap fun b => [.o :: b, .i :: b, .b :: b]
    rw [List.mem_flatMap]
    exact ⟨r, h, by cases p <;> simp⟩
end L
namespace L
open PySem Pz PySem.W
/-! ### the odometer, box by box -/
set_option maxHeartbeats 0 in
theorem mem1 (φ : Nat → List T → FR) : (allB 1).all (fun b => isRows (memR φ b) (rowsB b)) = true := by kernel_rfl
set_option maxHeartbeats 0 in
theorem mem2 (φ : Nat → List T → FR) : (allB 2).all (fun b => isRows (memR φ b) (rowsB b)) = true := by kernel_rfl
set_option maxHeartbeats 0 in
theorem mem3 (φ : Nat → List T → FR) : (allB 3).all (fun b => isRows (memR φ b) (rowsB b)) = true := by kernel_rfl
set_option maxHeartbeats 0 in
theorem mem4 (φ : Nat → List T → FR) : (allB 4).all (fun b => isRows (memR φ b) (rowsB b)) = true := by kernel_rfl
set_option maxHeartbeats 0 in
theorem mem5_ooo (φ : Nat → List T → FR) : (allB 2).all (fun b => isRows (memR φ (.o :: .o :: .o :: b)) (rowsB (.o :: .o :: .o :: b))) = true := by kernel_rfl
set_option maxHeartbeats 0 in
theorem mem5_ooi (φ : Nat → List T → FR) : (allB 2).all (fun b => isRows (memR φ (.o :: .o :: .i :: b)) (rowsB (.o :: .o :: .i :: b))) = true := by kernel_rfl
set_option maxHeartbeats 0 in
theorem mem5_oob (φ : Nat → List T → FR) : (allB 2).all (fun b => isRows (memR φ (.o :: .o :: .b :: b)) (rowsB (.o :: .o :: .b :: b))) = true := by kernel_rfl
set_option maxHeartbeats 0 in
theorem mem5_oio (φ : Nat → List T → FR) : (allB 2).all (fun b => isRows (memR φ (.o :: .i :: .o :: b)) (rowsB (.o :: .i :: .o :: b))) = true := by kernel_rfl
set_option maxHeartbeats 0 in
theorem mem5_oii (φ : Nat → List T → FR) : (allB 2).all (fun b => isRows (memR φ (.o :: .i :: .i :: b)) (rowsB (.o :: .i :: .i :: b))) = true := by kernel_rfl
set_option maxHeartbeats 0 in
theorem mem5_oib (φ : Nat → List T → FR) : (allB 2).all (fun b => isRows (memR φ (.o :: .i :: .b :: b)) (rowsB (.o :: .i :: .b :: b))) = true := by kernel_rfl
set_option maxHeartbeats 0 in
theorem mem5_obo (φ : Nat → List T → FR) : (allB 2).all (fun b => isRows (memR φ (.o :: .b :: .o :: b)) (rowsB (.o :: .b :: .o :: b))) = true := by kernel_rfl
set_option maxHeartbeats 0 in
theorem mem5_obi (φ : Nat → List T → FR) : (allB 2).all (fun b => isRows (memR φ (.o :: .b :: .i :: b)) (rowsB (.o :: .b :: .i :: b))) = true := by kernel_rfl
set_option maxHeartbeats 0 in
theorem mem5_obb (φ : Nat → List T → FR) : (allB 2).all (fun b => isRows (memR φ (.o :: .b :: .b :: b)) (rowsB (.o :: .b :: .b :: b))) = true := by kernel_rfl
set_option maxHeartbeats 0 in
theorem mem5_ioo (φ : Nat → List T → FR) : (allB 2).all (fun b => isRows (memR φ (.i :: .o :: .o :: b)) (rowsB (.i :: .o :: .o :: b))) = true := by kernel_rfl
set_option maxHeartbeats 0 in
theorem mem5_ioi (φ : Nat → List T → FR) : (allB 2).all (fun b => isRows (memR φ (.i :: .o :: .i :: b)) (rowsB (.i :: .o :: .i :: b))) = true := by kernel_rfl
set_option maxHeartbeats 0 in
theorem mem5_iob (φ : Nat → List T → FR) : (allB 2).all (fun b => isRows (memR φ (.i :: .o :: .b :: b)) (rowsB (.i :: .o :: .b :: b))) = true := by kernel_rfl
set_option maxHeartbeats 0 in
theorem mem5_iio (φ : Nat → List T → FR) : (allB 2).all (fun b => isRows (memR φ (.i :: .i :: .o :: b)) (rowsB (.i :: .i :: .o :: b))) = true := by kernel_rfl
set_option maxHeartbeats 0 in
theorem mem5_iii (φ : Nat → List T → FR) : (allB 2).all (fun b => isRows (memR φ (.i :: .i :: .i :: b)) (rowsB (.i :: .i :: .i :: b))) = true := by kernel_rfl
set_option maxHeartbeats 0 in
theorem mem5_iib (φ : Nat → List T → FR) : (allB 2).all (fun b => isRows (memR φ (.i :: .i :: .b :: b)) (rowsB (.i :: .i :: .b :: b))) = true := by kernel_rfl
set_option maxHeartbeats 0 in
theorem mem5_ibo (φ : Nat → List T → FR) : (allB 2).all (fun b => isRows (memR φ (.i :: .b :: .o :: b)) (rowsB (.i :: .b :: .o :: b))) = true := by kernel_rfl
set_option maxHeartbeats 0 in
theorem mem5_ibi (φ : Nat → List T → FR) : (allB 2).all (fun b => isRows (memR φ (.i :: .b :: .i :: b)) (rowsB (.i :: .b :: .i :: b))) = true := by kernel_rfl
set_option maxHeartbeats 0 in
theorem mem5_ibb (φ : Nat → List T → FR) : (allB 2).all (fun b => isRows (memR φ (.i :: .b :: .b :: b)) (rowsB (.i :: .b :: .b :: b))) = true := by kernel_rfl
set_option maxHeartbeats 0 in
theorem mem5_boo (φ : Nat → List T → FR) : (allB 2).all (fun b => isRows (memR φ (.b :: .o :: .o :: b)) (rowsB (.b :: .o :: .o :: b))) = true := by kernel_rfl
set_option maxHeartbeats 0 in
theorem mem5_boi (φ : Nat → List T → FR) : (allB 2).all (fun b => isRows (memR φ (.b :: .o :: .i :: b)) (rowsB (.b :: .o :: .i :: b))) = true := by kernel_rfl
set_option maxHeartbeats 0 in
theorem mem5_bob (φ : Nat → List T → FR) : (allB 2).all (fun b => isRows (memR φ (.b :: .o :: .b :: b)) (rowsB (.b :: .o :: .b :: b))) = true := by kernel_rfl
set_option maxHeartbeats 0 in
theorem mem5_bio (φ : Nat → List T → FR) : (allB 2).all (fun b => isRows (memR φ (.b :: .i :: .o :: b)) (rowsB (.b :: .i :: .o :: b))) = true := by kernel_rfl
set_option maxHeartbeats 0 in
theorem mem5_bii (φ : Nat → List T → FR) : (allB 2).all (fun b => isRows (memR φ (.b :: .i :: .i :: b)) (rowsB (.b :: .i :: .i :: b))) = true := by kernel_rfl
set_option maxHeartbeats 0 in
theorem mem5_bib (φ : Nat → List T → FR) : (allB 2).all (fun b => isRows (memR φ (.b :: .i :: .b :: b)) (rowsB (.b :: .i :: .b :: b))) = true := by kernel_rfl
set_option maxHeartbeats 0 in
theorem mem5_bbo (φ : Nat → List T → FR) : (allB 2).all (fun b => isRows (memR φ (.b :: .b :: .o :: b)) (rowsB (.b :: .b :: .o :: b))) = true := by kernel_rfl
set_option maxHeartbeats 0 in
theorem mem5_bbi (φ : Nat → List T → FR) : (allB 2).all (fun b => isRows (memR φ (.b :: .b :: .i :: b)) (rowsB (.b :: .b :: .i :: b))) = true := by kernel_rfl
set_option maxHeartbeats 0 in
theorem mem5_bbb (φ : Nat → List T → FR) : (allB 2).all (fun b => isRows (memR φ (.b :: .b :: .b :: b)) (rowsB (.b :: .b :: .b :: b))) = true := by kernel_rfl
theorem mem5 (φ : Nat → List T → FR) : ∀ (x0 x1 x2 : Part), (allB 2).all (fun b => isRows (memR φ (x0 :: x1 :: x2 :: b)) (rowsB (x0 :: x1 :: x2 :: b))) = true
  | .o, .o, .o => mem5_ooo φ
  | .o, .o, .i => mem5_ooi φ
  | .o, .o, .b => mem5_oob φ
  | .o, .i, .o => mem5_oio φ
  | .o, .i, .i => mem5_oii φ
  | .o, .i, .b => mem5_oib φ
  | .o, .b, .o => mem5_obo φ
  | .o, .b, .i => mem5_obi φ
  | .o, .b, .b => mem5_obb φ
  | .i, .o, .o => mem5_ioo φ
  | .i, .o, .i => mem5_ioi φ
  | .i, .o, .b => mem5_iob φ
  | .i, .i, .o => mem5_iio φ
  | .i, .i, .i => mem5_iii φ
  | .i, .i, .b => mem5_iib φ
  | .i, .b, .o => mem5_ibo φ
  | .i, .b, .i => mem5_ibi φ
  | .i, .b, .b => mem5_ibb φ
  | .b, .o, .o => mem5_boo φ
  | .b, .o, .i => mem5_boi φ
  | .b, .o, .b => mem5_bob φ
  | .b, .i, .o => mem5_bio φ
  | .b, .i, .i => mem5_bii φ
  | .b, .i, .b => mem5_bib φ
  | .b, .b, .o => mem5_bbo φ
  | .b, .b, .i => mem5_bbi φ
  | .b, .b, .b => mem5_bbb φ
set_option maxHeartbeats 0 in
theorem mem6_oooo (φ : Nat → List T → FR) : (allB 2).all (fun b => isRows (memR φ (.o :: .o :: .o :: .o :: b)) (rowsB (.o :: .o :: .o :: .o :: b))) = true := by kernel_rfl
set_option maxHeartbeats 0 in
theorem mem6_oooi (φ : Nat → List T → FR) : (allB 2).all (fun b => isRows (memR φ (.o :: .o :: .o :: .i :: b)) (rowsB (.o :: .o :: .o :: .i :: b))) = true := by kernel_rfl
set_option maxHeartbeats 0 in
theorem mem6_ooob (φ : Nat → List T → FR) : (allB 2).all (fun b => isRows (memR φ (.o :: .o :: .o :: .b :: b)) (rowsB (.o :: .o :: .o :: .b :: b))) = true := by kernel_rfl
set_option maxHeartbeats 0 in
theorem mem6_ooio (φ : Nat → List T → FR) : (allB 2).all (fun b => isRows (memR φ (.o :: .o :: .i :: .o :: b)) (rowsB (.o :: .o :: .i :: .o :: b))) = true := by kernel_rfl
set_option maxHeartbeats 0 in
theorem mem6_ooii (φ : Nat → List T → FR) : (allB 2).all (fun b => isRows (memR φ (.o :: .o :: .i :: .i :: b)) (rowsB (.o :: .o :: .i :: .i :: b))) = true := by kernel_rfl
set_option maxHeartbeats 0 in
theorem mem6_ooib (φ : Nat → List T → FR) : (allB 2).all (fun b => isRows (memR φ (.o :: .o :: .i :: .b :: b)) (rowsB (.o :: .o :: .i :: .b :: b))) = true := by kernel_rfl
set_option maxHeartbeats 0 in
theorem mem6_oobo (φ : Nat → List T → FR) : (allB 2).all (fun b => isRows (memR φ (.o :: .o :: .b :: .o :: b)) (rowsB (.o :: .o :: .b :: .o :: b))) = true := by kernel_rfl
set_option maxHeartbeats 0 in
theorem mem6_oobi (φ : Nat → List T → FR) : (allB 2).all (fun b => isRows (memR φ (.o :: .o :: .b :: .i :: b)) (rowsB (.o :: .o :: .b :: .i :: b))) = true := by kernel_rfl
set_option maxHeartbeats 0 in
theorem mem6_oobb (φ : Nat → List T → FR) : (allB 2).all (fun b => isRows (memR φ (.o :: .o :: .b :: .b :: b)) (rowsB (.o :: .o :: .b :: .b :: b))) = true := by kernel_rfl
set_option maxHeartbeats 0 in
theorem mem6_oioo (φ : Nat → List T → FR) : (allB 2).all (fun b => isRows (memR φ (.o :: .i :: .o :: .o :: b)) (rowsB (.o :: .i :: .o :: .o :: b))) = true := by kernel_rfl
set_option maxHeartbeats 0 in
theorem mem6_oioi (φ : Nat → List T → FR) : (allB 2).all (fun b => isRows (memR φ (.o :: .i :: .o :: .i :: b)) (rowsB (.o :: .i :: .o :: .i :: b))) = true := by kernel_rfl
set_option maxHeartbeats 0 in
theorem mem6_oiob (φ : Nat → List T → FR) : (allB 2).all (fun b => isRows (memR φ (.o :: .i :: .o :: .b :: b)) (rowsB (.o :: .i :: .o :: .b :: b))) = true := by kernel_rfl
set_option maxHeartbeats 0 in
theorem mem6_oiio (φ : Nat → List T → FR) : (allB 2).all (fun b => isRows (memR φ (.o :: .i :: .i :: .o :: b)) (rowsB (.o :: .i :: .i :: .o :: b))) = true := by kernel_rfl
set_option maxHeartbeats 0 in
theorem mem6_oiii (φ : Nat → List T → FR) : (allB 2).all (fun b => isRows (memR φ (.o :: .i :: .i :: .i :: b)) (rowsB (.o :: .i :: .i :: .i :: b))) = true := by kernel_rfl
set_option maxHeartbeats 0 in
theorem mem6_oiib (φ : Nat → List T → FR) : (allB 2).all (fun b => isRows (memR φ (.o :: .i :: .i :: .b :: b)) (rowsB (.o :: .i :: .i :: .b :: b))) = true := by kernel_rfl
set_option maxHeartbeats 0 in
theorem mem6_oibo (φ : Nat → List T → FR) : (allB 2).all (fun b => isRows (memR φ (.o :: .i :: .b :: .o :: b)) (rowsB (.o :: .i :: .b :: .o :: b))) = true := by kernel_rfl
set_option maxHeartbeats 0 in
theorem mem6_oibi (φ : Nat → List T → FR) : (allB 2).all (fun b => isRows (memR φ (.o :: .i :: .b :: .i :: b)) (rowsB (.o :: .i :: .b :: .i :: b))) = true := by kernel_rfl
set_option maxHeartbeats 0 in
theorem mem6_oibb (φ : Nat → List T → FR) : (allB 2).all (fun b => isRows (memR φ (.o :: .i :: .b :: .b :: b)) (rowsB (.o :: .i :: .b :: .b :: b))) = true := by kernel_rfl
set_option maxHeartbeats 0 in
theorem mem6_oboo (φ : Nat → List T → FR) : (allB 2).all (fun b => isRows (memR φ (.o :: .b :: .o :: .o :: b)) (rowsB (.o :: .b :: .o :: .o :: b))) = true := by kernel_rfl
set_option maxHeartbeats 0 in
theorem mem6_oboi (φ : Nat → List T → FR) : (allB 2).all (fun b => isRows (memR φ (.o :: .b :: .o :: .i :: b)) (rowsB (.o :: .b :: .o :: .i :: b))) = true := by kernel_rfl
set_option maxHeartbeats 0 in
theorem mem6_obob (φ : Nat → List T → FR) : (allB 2).all (fun b => isRows (memR φ (.o :: .b :: .o :: .b :: b)) (rowsB (.o :: .b :: .o :: .b :: b))) = true := by kernel_rfl
set_option maxHeartbeats 0 in
theorem mem6_obio (φ : Nat → List T → FR) : (allB 2).all (fun b => isRows (memR φ (.o :: .b :: .i :: .o :: b)) (rowsB (.o :: .b :: .i :: .o :: b))) = true := by kernel_rfl
set_option maxHeartbeats 0 in
theorem mem6_obii (φ : Nat → List T → FR) : (allB 2).all (fun b => isRows (memR φ (.o :: .b :: .i :: .i :: b)) (rowsB (.o :: .b :: .i :: .i :: b))) = true := by kernel_rfl
set_option maxHeartbeats 0 in
theorem mem6_obib (φ : Nat → List T → FR) : (allB 2).all (fun b => isRows (memR φ (.o :: .b :: .i :: .b :: b)) (rowsB (.o :: .b :: .i :: .b :: b))) = true := by kernel_rfl
set_option maxHeartbeats 0 in
theorem mem6_obbo (φ : Nat → List T → FR) : (allB 2).all (fun b => isRows (memR φ (.o :: .b :: .b :: .o :: b)) (rowsB (.o :: .b :: .b :: .o :: b))) = true := by kernel_rfl
set_option maxHeartbeats 0 in
theorem mem6_obbi (φ : Nat → List T → FR) : (allB 2).all (fun b => isRows (memR φ (.o :: .b :: .b :: .i :: b)) (rowsB (.o :: .b :: .b :: .i :: b))) = true := by kernel_rfl
set_option maxHeartbeats 0 in
theorem mem6_obbb (φ : Nat → List T → FR) : (allB 2).all (fun b => isRows (memR φ (.o :: .b :: .b :: .b :: b)) (rowsB (.o :: .b :: .b :: .b :: b))) = true := by kernel_rfl
set_option maxHeartbeats 0 in
theorem mem6_iooo (φ : Nat → List T → FR) : (allB 2).all (fun b => isRows (memR φ (.i :: .o :: .o :: .o :: b)) (rowsB (.i :: .o :: .o :: .o :: b))) = true := by kernel_rfl
set_option maxHeartbeats 0 in
theorem mem6_iooi (φ : Nat → List T → FR) : (allB 2).all (fun b => isRows (memR φ (.i :: .o :: .o :: .i :: b)) (rowsB (.i :: .o :: .o :: .i :: b))) = true := by kernel_rfl
set_option maxHeartbeats 0 in
theorem mem6_ioob (φ : Nat → List T → FR) : (allB 2).all (fun b => isRows (memR φ (.i :: .o :: .o :: .b :: b)) (rowsB (.i :: .o :: .o :: .b :: b))) = true := by kernel_rfl
set_option maxHeartbeats 0 in
theorem mem6_ioio (φ : Nat → List T → FR) : (allB 2).all (fun b => isRows (memR φ (.i :: .o :: .i :: .o :: b)) (rowsB (.i :: .o :: .i :: .o :: b))) = true := by kernel_rfl
set_option maxHeartbeats 0 in
theorem mem6_ioii (φ : Nat → List T → FR) : (allB 2).all (fun b => isRows (memR φ (.i :: .o :: .i :: .i :: b)) (rowsB (.i :: .o :: .i :: .i :: b))) = true := by kernel_rfl
set_option maxHeartbeats 0 in
theorem mem6_ioib (φ : Nat → List T → FR) : (allB 2).all (fun b => isRows (memR φ (.i :: .o :: .i :: .b :: b)) (rowsB (.i :: .o :: .i :: .b :: b))) = true := by kernel_rfl
set_option maxHeartbeats 0 in
theorem mem6_iobo (φ : Nat → List T → FR) : (allB 2).all (fun b => isRows (memR φ (.i :: .o :: .b :: .o :: b)) (rowsB (.i :: .o :: .b :: .o :: b))) = true := by kernel_rfl
set_option maxHeartbeats 0 in
theorem mem6_iobi (φ : Nat → List T → FR) : (allB 2).all (fun b => isRows (memR φ (.i :: .o :: .b :: .i :: b)) (rowsB (.i :: .o :: .b :: .i :: b))) = true := by kernel_rfl
set_option maxHeartbeats 0 in
theorem mem6_iobb (φ : Nat → List T → FR) : (allB 2).all (fun b => isRows (memR φ (.i :: .o :: .b :: .b :: b)) (rowsB (.i :: .o :: .b :: .b :: b))) = true := by kernel_rfl
set_option maxHeartbeats 0 in
theorem mem6_iioo (φ : Nat → List T → FR) : (allB 2).all (fun b => isRows (memR φ (.i :: .i :: .o :: .o :: b)) (rowsB (.i :: .i :: .o :: .o :: b))) = true := by kernel_rfl
set_option maxHeartbeats 0 in
theorem mem6_iioi (φ : Nat → List T → FR) : (allB 2).all (fun b => isRows (memR φ (.i :: .i :: .o :: .i :: b)) (rowsB (.i :: .i :: .o :: .i :: b))) = true := by kernel_rfl
set_option maxHeartbeats 0 in
theorem mem6_iiob (φ : Nat → List T → FR) : (allB 2).all (fun b => isRows (memR φ (.i :: .i :: .o :: .b :: b)) (rowsB (.i :: .i :: .o :: .b :: b))) = true := by kernel_rfl
set_option maxHeartbeats 0 in
theorem mem6_iiio (φ : Nat → List T → FR) : (allB 2).all (fun b => isRows (memR φ (.i :: .i :: .i :: .o :: b)) (rowsB (.i :: .i :: .i :: .o :: b))) = true := by kernel_rfl
set_option maxHeartbeats 0 in
theorem mem6_iiii (φ : Nat → List T → FR) : (allB 2).all (fun b => isRows (memR φ (.i :: .i :: .i :: .i :: b)) (rowsB (.i :: .i :: .i :: .i :: b))) = true := by kernel_rfl
set_option maxHeartbeats 0 in
theorem mem6_iiib (φ : Nat → List T → FR) : (allB 2).all (fun b => isRows (memR φ (.i :: .i :: .i :: .b :: b)) (rowsB (.i :: .i :: .i :: .b :: b))) = true := by kernel_rfl
set_option maxHeartbeats 0 in
theorem mem6_iibo (φ : Nat → List T → FR) : (allB 2).all (fun b => isRows (memR φ (.i :: .i :: .b :: .o :: b)) (rowsB (.i :: .i :: .b :: .o :: b))) = true := by kernel_rfl
set_option maxHeartbeats 0 in
theorem mem6_iibi (φ : Nat → List T → FR) : (allB 2).all (fun b => isRows (memR φ (.i :: .i :: .b :: .i :: b)) (rowsB (.i :: .i :: .b :: .i :: b))) = true := by kernel_rfl
set_option maxHeartbeats 0 in
theorem mem6_iibb (φ : Nat → List T → FR) : (allB 2).all (fun b => isRows (memR φ (.i :: .i :: .b :: .b :: b)) (rowsB (.i :: .i :: .b :: .b :: b))) = true := by kernel_rfl
set_option maxHeartbeats 0 in
theorem mem6_iboo (φ : Nat → List T → FR) : (allB 2).all (fun b => isRows (memR φ (.i :: .b :: .o :: .o :: b)) (rowsB (.i :: .b :: .o :: .o :: b))) = true := by kernel_rfl
set_option maxHeartbeats 0 in
theorem mem6_iboi (φ : Nat → List T → FR) : (allB 2).all (fun b => isRows (memR φ (.i :: .b :: .o :: .i :: b)) (rowsB (.i :: .b :: .o :: .i :: b))) = true := by kernel_rfl
set_option maxHeartbeats 0 in
theorem mem6_ibob (φ : Nat → List T → FR) : (allB 2).all (fun b => isRows (memR φ (.i :: .b :: .o :: .b :: b)) (rowsB (.i :: .b :: .o :: .b :: b))) = true := by kernel_rfl
set_option maxHeartbeats 0 in
theorem mem6_ibio (φ : Nat → List T → FR) : (allB 2).all (fun b => isRows (memR φ (.i :: .b :: .i :: .o :: b)) (rowsB (.i :: .b :: .i :: .o :: b))) = true := by kernel_rfl
set_option maxHeartbeats 0 in
theorem mem6_ibii (φ : Nat → List T → FR) : (allB 2).all (fun b => isRows (memR φ (.i :: .b :: .i :: .i :: b)) (rowsB (.i :: .b :: .i :: .i :: b))) = true := by kernel_rfl
set_option maxHeartbeats 0 in
theorem mem6_ibib (φ : Nat → List T → FR) : (allB 2).all (fun b => isRows (memR φ (.i :: .b :: .i :: .b :: b)) (rowsB (.i :: .b :: .i :: .b :: b))) = true := by kernel_rfl
set_option maxHeartbeats 0 in
theorem mem6_ibbo (φ : Nat → List T → FR) : (allB 2).all (fun b => isRows (memR φ (.i :: .b :: .b :: .o :: b)) (rowsB (.i :: .b :: .b :: .o :: b))) = true := by kernel_rfl
set_option maxHeartbeats 0 in
theorem mem6_ibbi (φ : Nat → List T → FR) : (allB 2).all (fun b => isRows (memR φ (.i :: .b :: .b :: .i :: b)) (rowsB (.i :: .b :: .b :: .i :: b))) = true := by kernel_rfl
set_option maxHeartbeats 0 in
theorem mem6_ibbb (φ : Nat → List T → FR) : (allB 2).all (fun b => isRows (memR φ (.i :: .b :: .b :: .b :: b)) (rowsB (.i :: .b :: .b :: .b :: b))) = true := by kernel_rfl
set_option maxHeartbeats 0 in
theorem mem6_booo (φ : Nat → List T → FR) : (allB 2).all (fun b => isRows (memR φ (.b :: .o :: .o :: .o :: b)) (rowsB (.b :: .o :: .o :: .o :: b))) = true := by kernel_rfl
set_option maxHeartbeats 0 in
theorem mem6_booi (φ : Nat → List T → FR) : (allB 2).all (fun b => isRows (memR φ (.b :: .o :: .o :: .i :: b)) (rowsB (.b :: .o :: .o :: .i :: b))) = true := by kernel_rfl
set_option maxHeartbeats 0 in
theorem mem6_boob (φ : Nat → List T → FR) : (allB 2).all (fun b => isRows (memR φ (.b :: .o :: .o :: .b :: b)) (rowsB (.b :: .o :: .o :: .b :: b))) = true := by kernel_rfl
set_option maxHeartbeats 0 in
theorem mem6_boio (φ : Nat → List T → FR) : (allB 2).all (fun b => isRows (memR φ (.b :: .o :: .i :: .o :: b)) (rowsB (.b :: .o :: .i :: .o :: b))) = true := by kernel_rfl
set_option maxHeartbeats 0 in
theorem mem6_boii (φ : Nat → List T → FR) : (allB 2).all (fun b => isRows (memR φ (.b :: .o :: .i :: .i :: b)) (rowsB (.b :: .o :: .i :: .i :: b))) = true := by kernel_rfl
set_option maxHeartbeats 0 in
theorem mem6_boib (φ : Nat → List T → FR) : (allB 2).all (fun b => isRows (memR φ (.b :: .o :: .i :: .b :: b)) (rowsB (.b :: .o :: .i :: .b :: b))) = true := by kernel_rfl
set_option maxHeartbeats 0 in
theorem mem6_bobo (φ : Nat → List T → FR) : (allB 2).all (fun b => isRows (memR φ (.b :: .o :: .b :: .o :: b)) (rowsB (.b :: .o :: .b :: .o :: b))) = true := by kernel_rfl
set_option maxHeartbeats 0 in
theorem mem6_bobi (φ : Nat → List T → FR) : (allB 2).all (fun b => isRows (memR φ (.b :: .o :: .b :: .i :: b)) (rowsB (.b :: .o :: .b :: .i :: b))) = true := by kernel_rfl
set_option maxHeartbeats 0 in
theorem mem6_bobb (φ : Nat → List T → FR) : (allB 2).all (fun b => isRows (memR φ (.b :: .o :: .b :: .b :: b)) (rowsB (.b :: .o :: .b :: .b :: b))) = true := by kernel_rfl
set_option maxHeartbeats 0 in
theorem mem6_bioo (φ : Nat → List T → FR) : (allB 2).all (fun b => isRows (memR φ (.b :: .i :: .o :: .o :: b)) (rowsB (.b :: .i :: .o :: .o :: b))) = true := by kernel_rfl
set_option maxHeartbeats 0 in
theorem mem6_bioi (φ : Nat → List T → FR) : (allB 2).all (fun b => isRows (memR φ (.b :: .i :: .o :: .i :: b)) (rowsB (.b :: .i :: .o :: .i :: b))) = true := by kernel_rfl
set_option maxHeartbeats 0 in
theorem mem6_biob (φ : Nat → List T → FR) : (allB 2).all (fun b => isRows (memR φ (.b :: .i :: .o :: .b :: b)) (rowsB (.b :: .i :: .o :: .b :: b))) = true := by kernel_rfl
set_option maxHeartbeats 0 in
theorem mem6_biio (φ : Nat → List T → FR) : (allB 2).all (fun b => isRows (memR φ (.b :: .i :: .i :: .o :: b)) (rowsB (.b :: .i :: .i :: .o :: b))) = true := by kernel_rfl
set_option maxHeartbeats 0 in
theorem mem6_biii (φ : Nat → List T → FR) : (allB 2).all (fun b => isRows (memR φ (.b :: .i :: .i :: .i :: b)) (rowsB (.b :: .i :: .i :: .i :: b))) = true := by kernel_rfl
set_option maxHeartbeats 0 in
theorem mem6_biib (φ : Nat → List T → FR) : (allB 2).all (fun b => isRows (memR φ (.b :: .i :: .i :: .b :: b)) (rowsB (.b :: .i :: .i :: .b :: b))) = true := by kernel_rfl
set_option maxHeartbeats 0 in
theorem mem6_bibo (φ : Nat → List T → FR) : (allB 2).all (fun b => isRows (memR φ (.b :: .i :: .b :: .o :: b)) (rowsB (.b :: .i :: .b :: .o :: b))) = true := by kernel_rfl
set_option maxHeartbeats 0 in
theorem mem6_bibi (φ : Nat → List T → FR) : (allB 2).all (fun b => isRows (memR φ (.b :: .i :: .b :: .i :: b)) (rowsB (.b :: .i :: .b :: .i :: b))) = true := by kernel_rfl
set_option maxHeartbeats 0 in
theorem mem6_bibb (φ : Nat → List T → FR) : (allB 2).all (fun b => isRows (memR φ (.b :: .i :: .b :: .b :: b)) (rowsB (.b :: .i :: .b :: .b :: b))) = true := by kernel_rfl
set_option maxHeartbeats 0 in
theorem mem6_bboo (φ : Nat → List T → FR) : (allB 2).all (fun b => isRows (memR φ (.b :: .b :: .o :: .o :: b)) (rowsB (.b :: .b :: .o :: .o :: b))) = true := by kernel_rfl
set_option maxHeartbeats 0 in
theorem mem6_bboi (φ : Nat → List T → FR) : (allB 2).all (fun b => isRows (memR φ (.b :: .b :: .o :: .i :: b)) (rowsB (.b :: .b :: .o :: .i :: b))) = true := by kernel_rfl
set_option maxHeartbeats 0 in
theorem mem6_bbob (φ : Nat → List T → FR) : (allB 2).all (fun b => isRows (memR φ (.b :: .b :: .o :: .b :: b)) (rowsB (.b :: .b :: .o :: .b :: b))) = true := by kernel_rfl
set_option maxHeartbeats 0 in
theorem mem6_bbio (φ : Nat → List T → FR) : (allB 2).all (fun b => isRows (memR φ (.b :: .b :: .i :: .o :: b)) (rowsB (.b :: .b :: .i :: .o :: b))) = true := by kernel_rfl
set_option maxHeartbeats 0 in
theorem mem6_bbii (φ : Nat → List T → FR) : (allB 2).all (fun b => isRows (memR φ (.b :: .b :: .i :: .i :: b)) (rowsB (.b :: .b :: .i :: .i :: b))) = true := by kernel_rfl
set_option maxHeartbeats 0 in
theorem mem6_bbib (φ : Nat → List T → FR) : (allB 2).all (fun b => isRows (memR φ (.b :: .b :: .i :: .b :: b)) (rowsB (.b :: .b :: .i :: .b :: b))) = true := by kernel_rfl
set_option maxHeartbeats 0 in
theorem mem6_bbbo (φ : Nat → List T → FR) : (allB 2).all (fun b => isRows (memR φ (.b :: .b :: .b :: .o :: b)) (rowsB (.b :: .b :: .b :: .o :: b))) = true := by kernel_rfl
set_option maxHeartbeats 0 in
theorem mem6_bbbi (φ : Nat → List T → FR) : (allB 2).all (fun b => isRows (memR φ (.b :: .b :: .b :: .i :: b)) (rowsB (.b :: .b :: .b :: .i :: b))) = true := by kernel_rfl
set_option maxHeartbeats 0 in
theorem mem6_bbbb (φ : Nat → List T → FR) : (allB 2).all (fun b => isRows (memR φ (.b :: .b :: .b :: .b :: b)) (rowsB (.b :: .b :: .b :: .b :: b))) = true := by kernel_rfl
theorem mem6 (φ : Nat → List T → FR) : ∀ (x0 x1 x2 x3 : Part), (allB 2).all (fun b => isRows (memR φ (x0 :: x1 :: x2 :: x3 :: b)) (rowsB (x0 :: x1 :: x2 :: x3 :: b))) = true
  | .o, .o, .o, .o => mem6_oooo φ
  | .o, .o, .o, .i => mem6_oooi φ
  | .o, .o, .o, .b => mem6_ooob φ
  | .o, .o, .i, .o => mem6_ooio φ
  | .o, .o, .i, .i => mem6_ooii φ
  | .o, .o, .i, .b => mem6_ooib φ
  | .o, .o, .b, .o => mem6_oobo φ
  | .o, .o, .b, .i => mem6_oobi φ
  | .o, .o, .b, .b => mem6_oobb φ
  | .o, .i, .o, .o => mem6_oioo φ
  | .o, .i, .o, .i => mem6_oioi φ
  | .o, .i, .o, .b => mem6_oiob φ
  | .o, .i, .i, .o => mem6_oiio φ
  | .o, .i, .i, .i => mem6_oiii φ
  | .o, .i, .i, .b => mem6_oiib φ
  | .o, .i, .b, .o => mem6_oibo φ
  | .o, .i, .b, .i => mem6_oibi φ
  | .o, .i, .b, .b => mem6_oibb φ
  | .o, .b, .o, .o => mem6_oboo φ
  | .o, .b, .o, .i => mem6_oboi φ
  | .o, .b, .o, .b => mem6_obob φ
  | .o, .b, .i, .o => mem6_obio φ
  | .o, .b, .i, .i => mem6_obii φ
  | .o, .b, .i, .b => mem6_obib φ
  | .o, .b, .b, .o => mem6_obbo φ
  | .o, .b, .b, .i => mem6_obbi φ
  | .o, .b, .b, .b => mem6_obbb φ
  | .i, .o, .o, .o => mem6_iooo φ
  | .i, .o, .o, .i => mem6_iooi φ
  | .i, .o, .o, .b => mem6_ioob φ
  | .i, .o, .i, .o => mem6_ioio φ
  | .i, .o, .i, .i => mem6_ioii φ
  | .i, .o, .i, .b => mem6_ioib φ
  | .i, .o, .b, .o => mem6_iobo φ
  | .i, .o, .b, .i => mem6_iobi φ
  | .i, .o, .b, .b => mem6_iobb φ
  | .i, .i, .o, .o => mem6_iioo φ
  | .i, .i, .o, .i => mem6_iioi φ
  | .i, .i, .o, .b => mem6_iiob φ
  | .i, .i, .i, .o => mem6_iiio φ
  | .i, .i, .i, .i => mem6_iiii φ
  | .i, .i, .i, .b => mem6_iiib φ
  | .i, .i, .b, .o => mem6_iibo φ
  | .i, .i, .b, .i => mem6_iibi φ
  | .i, .i, .b, .b => mem6_iibb φ
  | .i, .b, .o, .o => mem6_iboo φ
  | .i, .b, .o, .i => mem6_iboi φ
  | .i, .b, .o, .b => mem6_ibob φ
  | .i, .b, .i, .o => mem6_ibio φ
  | .i, .b, .i, .i => mem6_ibii φ
  | .i, .b, .i, .b => mem6_ibib φ
  | .i, .b, .b, .o => mem6_ibbo φ
  | .i, .b, .b, .i => mem6_ibbi φ
  | .i, .b, .b, .b => mem6_ibbb φ
  | .b, .o, .o, .o => mem6_booo φ
  | .b, .o, .o, .i => mem6_booi φ
  | .b, .o, .o, .b => mem6_boob φ
  | .b, .o, .i, .o => mem6_boio φ
  | .b, .o, .i, .i => mem6_boii φ
  | .b, .o, .i, .b => mem6_boib φ
  | .b, .o, .b, .o => mem6_bobo φ
  | .b, .o, .b, .i => mem6_bobi φ
  | .b, .o, .b, .b => mem6_bobb φ
  | .b, .i, .o, .o => mem6_bioo φ
  | .b, .i, .o, .i => mem6_bioi φ
  | .b, .i, .o, .b => mem6_biob φ
  | .b, .i, .i, .o => mem6_biio φ
  | .b, .i, .i, .i => mem6_biii φ
  | .b, .i, .i, .b => mem6_biib φ
  | .b, .i, .b, .o => mem6_bibo φ
  | .b, .i, .b, .i => mem6_bibi φ
  | .b, .i, .b, .b => mem6_bibb φ
  | .b, .b, .o, .o => mem6_bboo φ
  | .b, .b, .o, .i => mem6_bboi φ
  | .b, .b, .o, .b => mem6_bbob φ
  | .b, .b, .i, .o => mem6_bbio φ
  | .b, .b, .i, .i => mem6_bbii φ
  | .b, .b, .i, .b => mem6_bbib φ
  | .b, .b, .b, .o => mem6_bbbo φ
  | .b, .b, .b, .i => mem6_bbbi φ
  | .b, .b, .b, .b => mem6_bbbb φ
theorem mem_all (φ : Nat → List T → FR) {b : Box} (h0 : 0 < b.length) (h1 : b.length ≤ 6) : isRows (memR φ b) (rowsB b) = true := by
  have hb := allB_mem b
  have : b.length = 1 ∨ b.length = 2 ∨ b.length = 3 ∨ b.length = 4 ∨ b.length = 5 ∨ b.length = 6 := by omega
  rcases this with e | e | e | e | e | e
  · rw [e] at hb
    exact List.all_eq_true.1 (mem1 φ) b hb
  · rw [e] at hb
    exact List.all_eq_true.1 (mem2 φ) b hb
  · rw [e] at hb
    exact List.all_eq_true.1 (mem3 φ) b hb
  · rw [e] at hb
    exact List.all_eq_true.1 (mem4 φ) b hb
  · obtain ⟨x, y, z, r, rfl⟩ : ∃ x y z r, b = x :: y :: z :: r := by
      match b, e with
      | x :: y :: z :: r, _ => exact ⟨x, y, z, r, rfl⟩
    have hr := allB_mem r
    rw [show r.length = 2 by simpa using e] at hr
    exact List.all_eq_true.1 (mem5 φ x y z) r hr
  · obtain ⟨x, y, z, u, r, rfl⟩ : ∃ x y z u r, b = x :: y :: z :: u :: r := by
      match b, e with
      | x :: y :: z :: u :: r, _ => exact ⟨x, y, z, u, r, rfl⟩
    have hr := allB_mem r
    rw [show r.length = 2 by simpa using e] at hr
    exact List.all_eq_true.1 (mem6 φ x y z u) r hr
end L
namespace L
open PySem Pz PySem.W
local macro_rules | `(tactic| walk_at "px") => `(tactic| simp (implicitDefEqProofs := false) only [wE_non, wE_bl, wE_int, wE_str, wE_glob, vE_varR, q_kAt, q_kGo, wE_varM, wO_some, wO_none, mvK_leaf, mvK_scr, mvK_lst, mvK_dct, wE_bin, q_kBin, vBin2, q_kBin3, wE_neg, vNeg, q_kNeg2, asInt, 
  wE_cmp, q_kCmp, vCmp2, q_kCmp3, kB_at, wC_cmp, vTru, wC_var, wC_and, wC_call, wC_idx, wC_f1, wC_bin, wC_mt, wC_bl, is_nn, is_in, is_tn, is_sn, isnot_nn, isnot_in, isnot_tn, isnot_sn, truth_none, truth_bool, truth_int, truth_tup, truth_lst, Bool.not_true, Bool.not_false,  wC_or, wC_not, q_isAnd, q_isOr, q_isNot, wE_idx, q_kIdx, vIdx2, q_kIdx3, q_kIdx4, q_kIdx5, wE_tup, vTup, q_kTup2, wE_lst, q_kLst, 
  wEs_nil, wEs_non, wEs_bl, wEs_int, wEs_str, wEs_glob, wEs_tup, wEs_lst, wEs_dct, wEs_bin, wEs_neg, wEs_cmp, wEs_chain, wEs_and, wEs_or, wEs_not, wEs_ite, wEs_idx, wEs_slice, wEs_rev, wEs_call, wEs_call0, wEs_callK, wEs_f1, wEs_f2, wEs_isi, wEs_comp, wEs_pop, wEs_mt, wEs_gidx, wEs_frz, wEs_var, q_kVar, q_kVarT, wEsO_nil, wEsO_cons, q_kEsO, q_kEs, q_kEsT, wE_call0, q_kC0, wC_call0, wE_call, vCall, q_kCall2, wE_f1, vF1, wE_isi, wC_isi, vIsi, wE_ite, vIte, q_kIte2, wE_f2, q_kF2, vF22, wI_seq, vSeq, wI_rng1, wE_lrng, lrng_t, lrng_l, wEs_lrng, wI_rng2, kR20_at, kR21_at, wI_rng3, kR30_at, kR31_at, big_m1, vRng1, q_kRng2, wI_enum, vEnum, 
  q_kEnum2, wI_zip, q_kZip, vZip2, q_kZip3, q_kZip4, q_kZip5, q_kZip6, wE_comp, vComp, q_kComp2, q_kCompE, vompF_nop, q_kBd, q_kBc, q_kEnd2, vEnd, vYes, wE_chain, wC_chain, q_kCh, q_kCh2, vCh3, q_kChB, wE_dct, 
  q_kDct, wE_and, vVAnd, q_kVAnd3, q_kVAnd4, q_kVAnd2, wE_or, vVOr, q_kVOr3, q_kVOr4, wE_not, vVNot, q_kVNot2, wOp_nop, vOpt, q_kOpt2, wE_slice, q_kSl, q_kSl2, vSl3, q_kSl4, wE_rev, vRev, q_kRev2, wE_pop, 
  vPop, q_kPop2, q_kPop3, q_kPop4, wE_callK, q_kCallK, vCallK2, q_kCK2, q_kCK3, q_kCK4, q_kCK5, wF_ret, putBack, wQ_next, wQ_ret, cast0, kThn_next, kThn_ret, kThn_brk, kThn_cont, wT_nil, wT_retN, wT_brk, wT_cont, 
  wT_pass, wT_set, vSet, wT_asg, vAsg, q_kAsg2, wT_par, vPar, wT_ret, q_kRet, wT_expr, q_kExpr, wT_ite, q_kIf, wT_mut, vMut, q_kMu2, q_kMu3, q_kMu4, wT_ext, vExt, q_kExt2, kExt.seqL, wT_store, 
  q_kStore, vStore2, q_kSt3, q_kSt4, q_kSt5, vorF_at, q_kPut, wT_for, q_kFor, kFr, kTurn_next, kTurn_cont, kTurn_brk, kTurn_ret, kJ_next, kJ_ret, Pz.opnd, Pz.pureE, Pz.pureEs, Pz.stands, itemsS_tup, itemsS_list, itemsS_scr, itemsS_str, itemsS_lst, items_tup, items_list, items_scr, items_lst, Pz.leafOf, 
  leaves, isLeaf_leaf, isLeaf_lst, isLeaf_dct, isLeaf_scr, isLeaf_rng, free_leaf, free_lst, free_dct, free_scr, free_rng, flat_leaf, flat_lst, Pz.getSlot, Pz.setSlot, setSlots, Pz.bindIo, bindP_v, bindP_t, bindPs_nil, bindPs_cons, keyOf_str, keyOf_int, patVs, patsVs, wipeR_nil, wipeR_cons, 
  slotOk_none, slotOk_leaf, takeIt, takeOut, takeOuts, putIt, Pz.putIn, ioIt, ioOp, ioOf, restore, allBack, Pz.outsOf, O.map1, isNop, ioOps0, putIns0, Pz.isLst, Pz.isCon, stepsD, stepD, 
  onPath, isL, isC, mutT, extT, storeT_dct, sl_0, sl_1, sl_2, il_0, il_1, il_2, it_0, it_1, it_2, it_3, Option.isSome_some, List.isEmpty_nil, cmp_eqI, cmp_neI, cmp_ltI, cmp_gtI, cmp_leI, cmp_geI, bin_addI, bin_addT, bin_subI, bin_mulR, bin_mulL, bin_mulI, 
  bin_modI, bin_divL, Nat.reducePow, Int.reduceLT, Int.reduceEq, Int.reduceNe, Int.reduceLE, Int.reduceAdd, Int.reduceSub, Int.reduceMul, Int.reduceNeg, Int.reduceToNat, len_lst, len_tup, leaves_ints, 
  leaves_map, tup_lst, tInts_len, List.getElem?_cons_zero, List.getElem?_cons_succ, List.set_cons_zero, List.set_cons_succ, List.length_cons, List.zip_cons_cons, List.zip_nil_left, List.length_nil, List.length_map, List.map_cons, 
  List.map_nil, List.cons_append, List.nil_append, List.replicate, List.any_cons, List.any_nil, List.append_nil, Nat.sub_self, Nat.reduceSub, Nat.reduceAdd, Nat.reduceLeDiff, 
  Nat.reduceEqDiff, ↓reduceIte, ite_self, reduceCtorEq, ne_eq, not_false_eq_true, not_true_eq_false, true_and, and_true, false_and, and_false, true_or, or_true, false_or, or_false, 
  Bool.or_false, Bool.or_true, Bool.false_or, Bool.true_or, Bool.and_true, Bool.true_and, Bool.and_self, Bool.or_self, if_true, if_false, Pz.isTy, Pz.kdOf, isKd, szE, Nat.reduceLT, 
  Option.map_some, decide_true, decide_false, Bool.false_eq_true, List.mem_cons, List.not_mem_nil, Nat.lt_irrefl, Nat.le_refl, wOp_non, vompF_non, wOp_bl, vompF_bl, wOp_int, vompF_int, wOp_str, vompF_str, wOp_var, vompF_var, wOp_glob, vompF_glob, wOp_tup, vompF_tup, wOp_lst, vompF_lst, wOp_dct, vompF_dct, wOp_bin, vompF_bin, wOp_neg, vompF_neg, wOp_cmp, vompF_cmp, wOp_chain, vompF_chain, wOp_and, vompF_and, wOp_or, vompF_or, wOp_not, vompF_not, wOp_ite, vompF_ite, wOp_idx, vompF_idx, wOp_slice, vompF_slice, wOp_rev, vompF_rev, wOp_call, vompF_call, wOp_f1, vompF_f1, wOp_f2, vompF_f2, wOp_isi, vompF_isi, wOp_comp, vompF_comp, wOp_pop, vompF_pop, wOp_mt, vompF_mt, wOp_gidx, vompF_gidx, wOp_frz, vompF_frz, big62_of, int_int, abs_int, tInts_snoc, tStrs_snoc, tStrs_len, leaves_strs, Pz.isLst, onPath, permL])
local macro_rules | `(tactic| walk_at "px*") => `(tactic| simp (implicitDefEqProofs := false) only [wE_non, wE_bl, wE_int, wE_str, wE_glob, vE_varR, q_kAt, q_kGo, wE_varM, wO_some, wO_none, mvK_leaf, mvK_scr, mvK_lst, mvK_dct, wE_bin, q_kBin, vBin2, q_kBin3, wE_neg, vNeg, q_kNeg2, asInt, 
  wE_cmp, q_kCmp, vCmp2, q_kCmp3, kB_at, wC_cmp, vTru, wC_var, wC_and, wC_call, wC_idx, wC_f1, wC_bin, wC_mt, wC_bl, is_nn, is_in, is_tn, is_sn, isnot_nn, isnot_in, isnot_tn, isnot_sn, truth_none, truth_bool, truth_int, truth_tup, truth_lst, Bool.not_true, Bool.not_false,  wC_or, wC_not, q_isAnd, q_isOr, q_isNot, wE_idx, q_kIdx, vIdx2, q_kIdx3, q_kIdx4, q_kIdx5, wE_tup, vTup, q_kTup2, wE_lst, q_kLst, 
  wEs_nil, wEs_non, wEs_bl, wEs_int, wEs_str, wEs_glob, wEs_tup, wEs_lst, wEs_dct, wEs_bin, wEs_neg, wEs_cmp, wEs_chain, wEs_and, wEs_or, wEs_not, wEs_ite, wEs_idx, wEs_slice, wEs_rev, wEs_call, wEs_call0, wEs_callK, wEs_f1, wEs_f2, wEs_isi, wEs_comp, wEs_pop, wEs_mt, wEs_gidx, wEs_frz, wEs_var, q_kVar, q_kVarT, wEsO_nil, wEsO_cons, q_kEsO, q_kEs, q_kEsT, wE_call0, q_kC0, wC_call0, wE_call, vCall, q_kCall2, wE_f1, vF1, wE_isi, wC_isi, vIsi, wE_ite, vIte, q_kIte2, wE_f2, q_kF2, vF22, wI_seq, vSeq, wI_rng1, wE_lrng, lrng_t, lrng_l, wEs_lrng, wI_rng2, kR20_at, kR21_at, wI_rng3, kR30_at, kR31_at, big_m1, vRng1, q_kRng2, wI_enum, vEnum, 
  q_kEnum2, wI_zip, q_kZip, vZip2, q_kZip3, q_kZip4, q_kZip5, q_kZip6, wE_comp, vComp, q_kComp2, q_kCompE, vompF_nop, q_kBd, q_kBc, q_kEnd2, vEnd, vYes, wE_chain, wC_chain, q_kCh, q_kCh2, vCh3, q_kChB, wE_dct, 
  q_kDct, wE_and, vVAnd, q_kVAnd3, q_kVAnd4, q_kVAnd2, wE_or, vVOr, q_kVOr3, q_kVOr4, wE_not, vVNot, q_kVNot2, wOp_nop, vOpt, q_kOpt2, wE_slice, q_kSl, q_kSl2, vSl3, q_kSl4, wE_rev, vRev, q_kRev2, wE_pop, 
  vPop, q_kPop2, q_kPop3, q_kPop4, wE_callK, q_kCallK, vCallK2, q_kCK2, q_kCK3, q_kCK4, q_kCK5, wF_ret, putBack, wQ_next, wQ_ret, cast0, kThn_next, kThn_ret, kThn_brk, kThn_cont, wT_nil, wT_retN, wT_brk, wT_cont, 
  wT_pass, wT_set, vSet, wT_asg, vAsg, q_kAsg2, wT_par, vPar, wT_ret, q_kRet, wT_expr, q_kExpr, wT_ite, q_kIf, wT_mut, vMut, q_kMu2, q_kMu3, q_kMu4, wT_ext, vExt, q_kExt2, kExt.seqL, wT_store, 
  q_kStore, vStore2, q_kSt3, q_kSt4, q_kSt5, vorF_at, q_kPut, wT_for, q_kFor, kFr, kTurn_next, kTurn_cont, kTurn_brk, kTurn_ret, kJ_next, kJ_ret, Pz.opnd, Pz.pureE, Pz.pureEs, Pz.stands, itemsS_tup, itemsS_list, itemsS_scr, itemsS_str, itemsS_lst, items_tup, items_list, items_scr, items_lst, Pz.leafOf, 
  leaves, isLeaf_leaf, isLeaf_lst, isLeaf_dct, isLeaf_scr, isLeaf_rng, free_leaf, free_lst, free_dct, free_scr, free_rng, flat_leaf, flat_lst, Pz.getSlot, Pz.setSlot, setSlots, Pz.bindIo, bindP_v, bindP_t, bindPs_nil, bindPs_cons, keyOf_str, keyOf_int, patVs, patsVs, wipeR_nil, wipeR_cons, 
  slotOk_none, slotOk_leaf, takeIt, takeOut, takeOuts, putIt, Pz.putIn, ioIt, ioOp, ioOf, restore, allBack, Pz.outsOf, O.map1, isNop, ioOps0, putIns0, Pz.isLst, Pz.isCon, stepsD, stepD, 
  onPath, isL, isC, mutT, extT, storeT_dct, sl_0, sl_1, sl_2, il_0, il_1, il_2, it_0, it_1, it_2, it_3, Option.isSome_some, List.isEmpty_nil, cmp_eqI, cmp_neI, cmp_ltI, cmp_gtI, cmp_leI, cmp_geI, bin_addI, bin_addT, bin_subI, bin_mulR, bin_mulL, bin_mulI, 
  bin_modI, bin_divL, Nat.reducePow, Int.reduceLT, Int.reduceEq, Int.reduceNe, Int.reduceLE, Int.reduceAdd, Int.reduceSub, Int.reduceMul, Int.reduceNeg, Int.reduceToNat, len_lst, len_tup, leaves_ints, 
  leaves_map, tup_lst, tInts_len, List.getElem?_cons_zero, List.getElem?_cons_succ, List.set_cons_zero, List.set_cons_succ, List.length_cons, List.zip_cons_cons, List.zip_nil_left, List.length_nil, List.length_map, List.map_cons, 
  List.map_nil, List.cons_append, List.nil_append, List.replicate, List.any_cons, List.any_nil, List.append_nil, Nat.sub_self, Nat.reduceSub, Nat.reduceAdd, Nat.reduceLeDiff, 
  Nat.reduceEqDiff, ↓reduceIte, ite_self, reduceCtorEq, ne_eq, not_false_eq_true, not_true_eq_false, true_and, and_true, false_and, and_false, true_or, or_true, false_or, or_false, 
  Bool.or_false, Bool.or_true, Bool.false_or, Bool.true_or, Bool.and_true, Bool.true_and, Bool.and_self, Bool.or_self, if_true, if_false, Pz.isTy, Pz.kdOf, isKd, szE, Nat.reduceLT, 
  Option.map_some, decide_true, decide_false, Bool.false_eq_true, List.mem_cons, List.not_mem_nil, Nat.lt_irrefl, Nat.le_refl, wOp_non, vompF_non, wOp_bl, vompF_bl, wOp_int, vompF_int, wOp_str, vompF_str, wOp_var, vompF_var, wOp_glob, vompF_glob, wOp_tup, vompF_tup, wOp_lst, vompF_lst, wOp_dct, vompF_dct, wOp_bin, vompF_bin, wOp_neg, vompF_neg, wOp_cmp, vompF_cmp, wOp_chain, vompF_chain, wOp_and, vompF_and, wOp_or, vompF_or, wOp_not, vompF_not, wOp_ite, vompF_ite, wOp_idx, vompF_idx, wOp_slice, vompF_slice, wOp_rev, vompF_rev, wOp_call, vompF_call, wOp_f1, vompF_f1, wOp_f2, vompF_f2, wOp_isi, vompF_isi, wOp_comp, vompF_comp, wOp_pop, vompF_pop, wOp_mt, vompF_mt, wOp_gidx, vompF_gidx, wOp_frz, vompF_frz, big62_of, int_int, abs_int, tInts_snoc, tStrs_snoc, tStrs_len, leaves_strs, Pz.isLst, onPath, permL, *])
/-! ### rows compared -/
theorem eqv_ints : ∀ (a b : List Int), PyData.eqvAll (a.map .int) (b.map .int) = decide (a = b)
  | [], [] => by simp [PyData.eqvAll]
  | [], _ :: _ => by simp [PyData.eqvAll]
  | _ :: _, [] => by simp [PyData.eqvAll]
  | x :: r, y :: s => by
    simp only [List.map_cons, PyData.eqvAll, PyData.eqv, eqv_ints r s]
    by_cases h : x = y
    · subst h; simp
    · have : (x == y) = false := by simpa using h
      simp [this, h]
theorem eqv_row (a b : List Int) : PyData.eqv (rowD a) (rowD b) = decide (a = b) := by
  unfold rowD
  rw [PyData.eqv, eqv_ints]
theorem ints_atom {ns : List Int} : ∀ d, d ∈ ns.map PyData.int → isAtom d = true := fun d hd => by
  obtain ⟨n, _, rfl⟩ := List.mem_map.1 hd; rfl
theorem row_lay (r : List Int) : (rowD r).canLay0 = true ∧ (rowD r).depth = 1 := by
  obtain ⟨a, b⟩ := atoms_lay (ints_atom (ns := r))
  unfold rowD
  refine ⟨?_, ?_⟩
  · rw [PyData.canLay0, a]
  · rw [PyData.depth, b]
theorem rows_lay : ∀ (rs : List (List Int)), PyData.canLayAll0 (rs.map rowD) = true ∧ PyData.depthAll (rs.map rowD) ≤ 1
  | [] => ⟨rfl, by simp [PyData.depthAll]⟩
  | r :: s => by
    obtain ⟨a, b⟩ := row_lay r
    obtain ⟨c, d⟩ := rows_lay s
    refine ⟨?_, ?_⟩
    · rw [List.map_cons, PyData.canLayAll0, a, c]; rfl
    · rw [List.map_cons, PyData.depthAll, b]; omega
theorem shaped_row (r : List Int) : SeqAt.shaped (rowD r) = true := by
  obtain ⟨a, b⟩ := row_lay r
  unfold SeqAt.shaped; rw [a, b]; rfl
theorem shaped_rows (rs : List (List Int)) : SeqAt.shaped (.list (rs.map rowD)) = true := by
  obtain ⟨a, b⟩ := rows_lay rs
  have d1 : (PyData.list (rs.map rowD)).depth ≤ 64 := by
    have : (PyData.list (rs.map rowD)).depth = PyData.depthAll (rs.map rowD) + 1 := by rw [PyData.depth]
    omega
  unfold SeqAt.shaped
  rw [PyData.canLay0, a, Bool.true_and]
  exact decide_eq_true d1
theorem in_rows {r : List Int} {rs : List (List Int)} : cmpOp .isin (.leaf (rowD r)) (.lst ((rs.map rowD).map .leaf)) = some (decide (r ∈ rs)) := by
  show inD (rowD r) (.lst ((rs.map rowD).map .leaf)) = _
  unfold inD
  simp only [flat_lst, leaves_map, Option.map_some]
  rw [if_pos ⟨shaped_row r, shaped_rows rs⟩, List.any_map]
  congr 1
  induction rs with
  | nil => simp
  | cons x s ih =>
    simp only [List.any_cons, Function.comp, eqv_row, List.mem_cons] at ih ⊢
    rw [ih]
    by_cases h : x = r
    · subst h; simp
    · have : ¬ r = x := fun e => h e.symm
      simp [h, this]
theorem eq_row {a b : List Int} : cmpOp .eq (.leaf (rowD a)) (.leaf (rowD b)) = some (decide (a = b)) := by
  show eqD (rowD a) (rowD b) = _
  unfold eqD
  rw [if_pos ⟨shaped_row a, shaped_row b⟩, eqv_row]
theorem in_part {v : Int} {p : Part} : cmpOp .isin (.leaf (.int v)) (.leaf (partD p)) = some (decide (v ∈ p.vs)) := by
  show inD (.int v) (.leaf (.tuple (p.vs.map .int))) = _
  unfold inD
  simp only
  rw [if_pos ⟨rfl, shaped_tup ints_atom⟩, List.any_map]
  congr 1
  have q : ∀ a v : Int, (a == v) = decide (v = a) := fun a v => by rw [Bool.eq_iff_iff, beq_iff_eq, decide_eq_true_eq]; exact eq_comm
  cases p <;> simp [Part.vs, PyData.eqv, q]
theorem len_part {p : Part} : fun1 .len (.leaf (partD p)) = some (.leaf (.int (p.vs.length : Int))) := by
  show some (T.leaf (.int ((p.vs.map PyData.int).length : Int))) = _
  rw [List.length_map]
theorem len_box {b : Box} : fun1 .len (.leaf (boxD b)) = some (.leaf (.int (b.length : Int))) := by
  show some (T.leaf (.int ((b.map partD).length : Int))) = _
  rw [List.length_map]
theorem len_row {r : List Int} : fun1 .len (.leaf (rowD r)) = some (.leaf (.int (r.length : Int))) := by
  show some (T.leaf (.int ((r.map PyData.int).length : Int))) = _
  rw [List.length_map]
/-! ### plain facts of boxes -/
def prodB : Box → Nat
  | [] => 1
  | p :: r => p.vs.length * prodB r
def leastB (b : Box) : List Int := b.map fun p => p.vs.headD 0
def inB : Box → List Int → Bool
  | p :: b, v :: r => decide (v ∈ p.vs) && inB b r
  | _, _ => true
theorem part_len (p : Part) : 1 ≤ p.vs.length ∧ p.vs.length ≤ 2 := by cases p <;> decide
theorem rowsB_len : ∀ b : Box, (rowsB b).length = prodB b
  | [] => rfl
  | p :: r => by
    have h := rowsB_len r
    cases p <;> simp [rowsB, prodB, Part.vs, h] <;> omega
theorem prodB_pos : ∀ b : Box, 1 ≤ prodB b
  | [] => Nat.le_refl _
  | p :: r => by
    have h := prodB_pos r
    cases p <;> simp [prodB, Part.vs] <;> omega
theorem prodB_le : ∀ b : Box, prodB b ≤ 2 ^ b.length
  | [] => Nat.le_refl _
  | p :: r => by
    have h := prodB_le r
    rw [List.length_cons, Nat.pow_succ]
    cases p <;> simp [prodB, Part.vs] <;> omega
theorem prodB_app : ∀ (a b : Box), prodB (a ++ b) = prodB a * prodB b
  | [], b => by simp [prodB]
  | p :: r, b => by rw [List.cons_append, prodB, prodB_app r b, prodB, Nat.mul_assoc]
theorem mem_rows : ∀ (b : Box) (r : List Int), r.length = b.length → decide (r ∈ rowsB b) = inB b r
  | [], [], _ => by simp [rowsB, inB]
  | p :: b, v :: r, h => by
    have ih := mem_rows b r (by simpa using h)
    rw [inB, ← ih, rowsB]
    rw [← Bool.decide_and]
    congr 1
    simp only [List.mem_flatMap, List.mem_map, List.cons.injEq, eq_iff_iff]
    constructor
    · rintro ⟨w, hw, t, ht, rfl, rfl⟩; exact ⟨hw, ht⟩
    · rintro ⟨h1, h2⟩; exact ⟨v, h1, r, h2, rfl, rfl⟩
  | [], _ :: _, h => by cases h
  | _ :: _, [], h => by cases h
theorem row_len : ∀ (b : Box) (r : List Int), r ∈ rowsB b → r.length = b.length
  | [], r, h => by simp [rowsB] at h; subst h; rfl
  | p :: b, r, h => by
    simp only [rowsB, List.mem_flatMap, List.mem_map] at h
    obtain ⟨w, hw, t, ht, rfl⟩ := h
    rw [List.length_cons, List.length_cons, row_len b t ht]
theorem rows_head : ∀ b : Box, ∃ s, rowsB b = leastB b :: s
  | [] => ⟨[], rfl⟩
  | p :: r => by
    obtain ⟨s, hs⟩ := rows_head r
    cases p <;> simp [rowsB, Part.vs, leastB, hs] at hs ⊢
theorem least_len (b : Box) : (leastB b).length = b.length := by unfold leastB; rw [List.length_map]
/-! ### the program -/
theorem sp_size {n : Nat} {b : Box} (h : b.length ≤ 6) : run tbl.fn (n + 1) 1 [.leaf (boxD b)] = .ret (.leaf (.int (prodB b : Int))) [none] := by
  refine wF_eq ?_
  rw [wF_run (np := 1) (nv := 3) (body := b_box_size) rfl rfl]
  unfold b_box_size boxD
  walk_at "px*"
  refine forM_inv (fun j ρ => ∃ c2, slotOk (some c2) = true ∧ ρ = [some (.leaf (.tuple (b.map partD))), some (.leaf (.int (prodB (b.take j) : Int))), c2]) ⟨none, rfl, rfl⟩ ?_ ?_
  · intro j d ρ hd hI
    obtain ⟨c2, hc2, rfl⟩ := hI
    rw [List.getElem?_map] at hd
    cases hj : b[j]? with
    | none => rw [hj] at hd; cases hd
    | some p =>
      rw [hj] at hd
      simp only [Option.map_some, Option.some.injEq] at hd
      subst hd
      have e1 := @len_part p
      have m1 : mulOk (prodB (b.take j) : Int) (p.vs.length : Int) = true := mulOk_r (by have := part_len p; omega)
      obtain ⟨t1, t2⟩ := take_next hj
      have e2 : (prodB (b.take (j + 1)) : Int) = (prodB (b.take j) : Int) * (p.vs.length : Int) := by
        rw [t1, prodB_app, prodB, prodB, Nat.mul_one, Int.natCast_mul]
      have e2 := Fact.mk e2
      rename_i e2'
      clear e2' t1 t2 hj h
      walk_at "px*"
      exact ⟨_, rfl, by rw [e2.out]⟩
  · intro ρ hI
    obtain ⟨c2, hc2, rfl⟩ := hI
    rw [List.length_map, List.take_length]
    walk_at "px*"
theorem zip_boxes (r : List Int) (b : Box) : (((r.map PyData.int).zip (b.map partD)).map fun x => PyData.tuple [x.1, x.2]) = (r.zip b).map fun x => PyData.tuple [.int x.1, partD x.2] := by
  rw [List.zip_map, List.map_map]; rfl
theorem all_bools {α : Type} {xs : List α} {f : α → Bool} : fun1 .all (.lst (xs.map fun x => T.leaf (.bool (f x)))) = some (.leaf (.bool (xs.all f))) := by
  have e : (xs.map fun x => T.leaf (.bool (f x))) = (xs.map fun x => PyData.bool (f x)).map .leaf := by rw [List.map_map]; rfl
  have e2 : boolsOf (xs.map fun x => PyData.bool (f x)) = some (xs.map f) := by
    clear e
    induction xs with
    | nil => rfl
    | cons x r ih => simp only [List.map_cons, boolsOf, ih]
  unfold fun1
  simp only [e, flat_lst, leaves_map, Option.map_some, e2]
  rw [List.all_map]; rfl
theorem inB_zip : ∀ (b : Box) (r : List Int), (r.zip b).all (fun x => decide (x.1 ∈ x.2.vs)) = inB b r
  | [], [] => rfl
  | [], _ :: _ => rfl
  | _ :: _, [] => rfl
  | p :: b, v :: r => by rw [List.zip_cons_cons, List.all_cons, inB_zip b r]; rfl
theorem sp_in {n : Nat} {b : Box} {r : List Int} (h : b.length ≤ 6) (hr : r.length ≤ 6) : run tbl.fn (n + 1) 2 [.leaf (boxD b), .leaf (rowD r)] = .ret (.leaf (.bool (inB b r))) [none, none] := by
  refine wF_eq ?_
  rw [wF_run (np := 2) (nv := 4) (body := b_in_box) rfl rfl]
  unfold b_in_box boxD rowD
  walk_at "px*"
  rw [zip_boxes]
  refine compM_map (fun x => T.leaf (.bool (decide (x.1 ∈ x.2.vs)))) (fun x hx => ?_) ?_
  · have e1 := @in_part x.1 x.2
    walk_at "px*"
    exact ⟨rfl, rfl⟩
  · have e2 := all_bools (xs := r.zip b) (f := fun x => decide (x.1 ∈ x.2.vs))
    rw [inB_zip] at e2
    have l1 : ((r.zip b).map fun x => T.leaf (.bool (decide (x.1 ∈ x.2.vs)))).length ≤ 16777216 := by rw [List.length_map, List.length_zip]; omega
    generalize ((r.zip b).map fun x => T.leaf (.bool (decide (x.1 ∈ x.2.vs)))) = M at *
    walk_at "px*"
theorem head_part {p : Part} : idxT (.leaf (partD p)) (.int 0) = some (.leaf (.int (p.vs.headD 0))) := by cases p <;> rfl
theorem sp_least {n : Nat} {b : Box} (h : b.length ≤ 6) : run tbl.fn (n + 1) 3 [.leaf (boxD b)] = .ret (.leaf (rowD (leastB b))) [none] := by
  refine wF_eq ?_
  rw [wF_run (np := 1) (nv := 2) (body := b_least_row) rfl rfl]
  unfold b_least_row boxD
  walk_at "px*"
  refine compM_map (fun p => T.leaf (.int (p.vs.headD 0))) (fun p hp => ?_) ?_
  · have e1 := @head_part p
    walk_at "px*"
    exact ⟨rfl, rfl⟩
  · have e2 : (b.map fun p => T.leaf (.int (p.vs.headD 0))) = ((leastB b).map .int).map .leaf := by unfold leastB; rw [List.map_map, List.map_map]; rfl
    rw [e2]
    have l1 := least_len b
    have l1 : (leastB b).length ≤ 16777216 := by omega
    have e3 := @tup_lst ((leastB b).map .int)
    have l2 : b.length ≤ 16777216 := by omega
    unfold rowD
    walk_at "px*"
end L
namespace L
open PySem Pz PySem.W
local macro_rules | `(tactic| walk_at "px") => `(tactic| simp (implicitDefEqProofs := false) only [wE_non, wE_bl, wE_int, wE_str, wE_glob, vE_varR, q_kAt, q_kGo, wE_varM, wO_some, wO_none, mvK_leaf, mvK_scr, mvK_lst, mvK_dct, wE_bin, q_kBin, vBin2, q_kBin3, wE_neg, vNeg, q_kNeg2, asInt, 
  wE_cmp, q_kCmp, vCmp2, q_kCmp3, kB_at, wC_cmp, vTru, wC_var, wC_and, wC_call, wC_idx, wC_f1, wC_bin, wC_mt, wC_bl, is_nn, is_in, is_tn, is_sn, isnot_nn, isnot_in, isnot_tn, isnot_sn, truth_none, truth_bool, truth_int, truth_tup, truth_lst, Bool.not_true, Bool.not_false,  wC_or, wC_not, q_isAnd, q_isOr, q_isNot, wE_idx, q_kIdx, vIdx2, q_kIdx3, q_kIdx4, q_kIdx5, wE_tup, vTup, q_kTup2, wE_lst, q_kLst, 
  wEs_nil, wEs_non, wEs_bl, wEs_int, wEs_str, wEs_glob, wEs_tup, wEs_lst, wEs_dct, wEs_bin, wEs_neg, wEs_cmp, wEs_chain, wEs_and, wEs_or, wEs_not, wEs_ite, wEs_idx, wEs_slice, wEs_rev, wEs_call, wEs_call0, wEs_callK, wEs_f1, wEs_f2, wEs_isi, wEs_comp, wEs_pop, wEs_mt, wEs_gidx, wEs_frz, wEs_var, q_kVar, q_kVarT, wEsO_nil, wEsO_cons, q_kEsO, q_kEs, q_kEsT, wE_call0, q_kC0, wC_call0, wE_call, vCall, q_kCall2, wE_f1, vF1, wE_isi, wC_isi, vIsi, wE_ite, vIte, q_kIte2, wE_f2, q_kF2, vF22, wI_seq, vSeq, wI_rng1, wE_lrng, lrng_t, lrng_l, wEs_lrng, wI_rng2, kR20_at, kR21_at, wI_rng3, kR30_at, kR31_at, big_m1, vRng1, q_kRng2, wI_enum, vEnum, 
  q_kEnum2, wI_zip, q_kZip, vZip2, q_kZip3, q_kZip4, q_kZip5, q_kZip6, wE_comp, vComp, q_kComp2, q_kCompE, vompF_nop, q_kBd, q_kBc, q_kEnd2, vEnd, vYes, wE_chain, wC_chain, q_kCh, q_kCh2, vCh3, q_kChB, wE_dct, 
  q_kDct, wE_and, vVAnd, q_kVAnd3, q_kVAnd4, q_kVAnd2, wE_or, vVOr, q_kVOr3, q_kVOr4, wE_not, vVNot, q_kVNot2, wOp_nop, vOpt, q_kOpt2, wE_slice, q_kSl, q_kSl2, vSl3, q_kSl4, wE_rev, vRev, q_kRev2, wE_pop, 
  vPop, q_kPop2, q_kPop3, q_kPop4, wE_callK, q_kCallK, vCallK2, q_kCK2, q_kCK3, q_kCK4, q_kCK5, wF_ret, putBack, wQ_next, wQ_ret, cast0, kThn_next, kThn_ret, kThn_brk, kThn_cont, wT_nil, wT_retN, wT_brk, wT_cont, 
  wT_pass, wT_set, vSet, wT_asg, vAsg, q_kAsg2, wT_par, vPar, wT_ret, q_kRet, wT_expr, q_kExpr, wT_ite, q_kIf, wT_mut, vMut, q_kMu2, q_kMu3, q_kMu4, wT_ext, vExt, q_kExt2, kExt.seqL, wT_store, 
  q_kStore, vStore2, q_kSt3, q_kSt4, q_kSt5, vorF_at, q_kPut, wT_for, q_kFor, kFr, kTurn_next, kTurn_cont, kTurn_brk, kTurn_ret, kJ_next, kJ_ret, Pz.opnd, Pz.pureE, Pz.pureEs, Pz.stands, itemsS_tup, itemsS_list, itemsS_scr, itemsS_str, itemsS_lst, items_tup, items_list, items_scr, items_lst, Pz.leafOf, 
  leaves, isLeaf_leaf, isLeaf_lst, isLeaf_dct, isLeaf_scr, isLeaf_rng, free_leaf, free_lst, free_dct, free_scr, free_rng, flat_leaf, flat_lst, Pz.getSlot, Pz.setSlot, setSlots, Pz.bindIo, bindP_v, bindP_t, bindPs_nil, bindPs_cons, keyOf_str, keyOf_int, patVs, patsVs, wipeR_nil, wipeR_cons, 
  slotOk_none, slotOk_leaf, takeIt, takeOut, takeOuts, putIt, Pz.putIn, ioIt, ioOp, ioOf, restore, allBack, Pz.outsOf, O.map1, isNop, ioOps0, putIns0, Pz.isLst, Pz.isCon, stepsD, stepD, 
  onPath, isL, isC, mutT, extT, storeT_dct, sl_0, sl_1, sl_2, il_0, il_1, il_2, it_0, it_1, it_2, it_3, Option.isSome_some, List.isEmpty_nil, cmp_eqI, cmp_neI, cmp_ltI, cmp_gtI, cmp_leI, cmp_geI, bin_addI, bin_addT, bin_subI, bin_mulR, bin_mulL, bin_mulI, 
  bin_modI, bin_divL, Nat.reducePow, Int.reduceLT, Int.reduceEq, Int.reduceNe, Int.reduceLE, Int.reduceAdd, Int.reduceSub, Int.reduceMul, Int.reduceNeg, Int.reduceToNat, len_lst, len_tup, leaves_ints, 
  leaves_map, tup_lst, tInts_len, List.getElem?_cons_zero, List.getElem?_cons_succ, List.set_cons_zero, List.set_cons_succ, List.length_cons, List.zip_cons_cons, List.zip_nil_left, List.length_nil, List.length_map, List.map_cons, 
  List.map_nil, List.cons_append, List.nil_append, List.replicate, List.any_cons, List.any_nil, List.append_nil, Nat.sub_self, Nat.reduceSub, Nat.reduceAdd, Nat.reduceLeDiff, 
  Nat.reduceEqDiff, ↓reduceIte, ite_self, reduceCtorEq, ne_eq, not_false_eq_true, not_true_eq_false, true_and, and_true, false_and, and_false, true_or, or_true, false_or, or_false, 
  Bool.or_false, Bool.or_true, Bool.false_or, Bool.true_or, Bool.and_true, Bool.true_and, Bool.and_self, Bool.or_self, if_true, if_false, Pz.isTy, Pz.kdOf, isKd, szE, Nat.reduceLT, 
  Option.map_some, decide_true, decide_false, Bool.false_eq_true, List.mem_cons, List.not_mem_nil, Nat.lt_irrefl, Nat.le_refl, wOp_non, vompF_non, wOp_bl, vompF_bl, wOp_int, vompF_int, wOp_str, vompF_str, wOp_var, vompF_var, wOp_glob, vompF_glob, wOp_tup, vompF_tup, wOp_lst, vompF_lst, wOp_dct, vompF_dct, wOp_bin, vompF_bin, wOp_neg, vompF_neg, wOp_cmp, vompF_cmp, wOp_chain, vompF_chain, wOp_and, vompF_and, wOp_or, vompF_or, wOp_not, vompF_not, wOp_ite, vompF_ite, wOp_idx, vompF_idx, wOp_slice, vompF_slice, wOp_rev, vompF_rev, wOp_call, vompF_call, wOp_f1, vompF_f1, wOp_f2, vompF_f2, wOp_isi, vompF_isi, wOp_comp, vompF_comp, wOp_pop, vompF_pop, wOp_mt, vompF_mt, wOp_gidx, vompF_gidx, wOp_frz, vompF_frz, big62_of, int_int, abs_int, tInts_snoc, tStrs_snoc, tStrs_len, leaves_strs, Pz.isLst, onPath, permL])
local macro_rules | `(tactic| walk_at "px*") => `(tactic| simp (implicitDefEqProofs := false) only [wE_non, wE_bl, wE_int, wE_str, wE_glob, vE_varR, q_kAt, q_kGo, wE_varM, wO_some, wO_none, mvK_leaf, mvK_scr, mvK_lst, mvK_dct, wE_bin, q_kBin, vBin2, q_kBin3, wE_neg, vNeg, q_kNeg2, asInt, 
  wE_cmp, q_kCmp, vCmp2, q_kCmp3, kB_at, wC_cmp, vTru, wC_var, wC_and, wC_call, wC_idx, wC_f1, wC_bin, wC_mt, wC_bl, is_nn, is_in, is_tn, is_sn, isnot_nn, isnot_in, isnot_tn, isnot_sn, truth_none, truth_bool, truth_int, truth_tup, truth_lst, Bool.not_true, Bool.not_false,  wC_or, wC_not, q_isAnd, q_isOr, q_isNot, wE_idx, q_kIdx, vIdx2, q_kIdx3, q_kIdx4, q_kIdx5, wE_tup, vTup, q_kTup2, wE_lst, q_kLst, 
  wEs_nil, wEs_non, wEs_bl, wEs_int, wEs_str, wEs_glob, wEs_tup, wEs_lst, wEs_dct, wEs_bin, wEs_neg, wEs_cmp, wEs_chain, wEs_and, wEs_or, wEs_not, wEs_ite, wEs_idx, wEs_slice, wEs_rev, wEs_call, wEs_call0, wEs_callK, wEs_f1, wEs_f2, wEs_isi, wEs_comp, wEs_pop, wEs_mt, wEs_gidx, wEs_frz, wEs_var, q_kVar, q_kVarT, wEsO_nil, wEsO_cons, q_kEsO, q_kEs, q_kEsT, wE_call0, q_kC0, wC_call0, wE_call, vCall, q_kCall2, wE_f1, vF1, wE_isi, wC_isi, vIsi, wE_ite, vIte, q_kIte2, wE_f2, q_kF2, vF22, wI_seq, vSeq, wI_rng1, wE_lrng, lrng_t, lrng_l, wEs_lrng, wI_rng2, kR20_at, kR21_at, wI_rng3, kR30_at, kR31_at, big_m1, vRng1, q_kRng2, wI_enum, vEnum, 
  q_kEnum2, wI_zip, q_kZip, vZip2, q_kZip3, q_kZip4, q_kZip5, q_kZip6, wE_comp, vComp, q_kComp2, q_kCompE, vompF_nop, q_kBd, q_kBc, q_kEnd2, vEnd, vYes, wE_chain, wC_chain, q_kCh, q_kCh2, vCh3, q_kChB, wE_dct, 
  q_kDct, wE_and, vVAnd, q_kVAnd3, q_kVAnd4, q_kVAnd2, wE_or, vVOr, q_kVOr3, q_kVOr4, wE_not, vVNot, q_kVNot2, wOp_nop, vOpt, q_kOpt2, wE_slice, q_kSl, q_kSl2, vSl3, q_kSl4, wE_rev, vRev, q_kRev2, wE_pop, 
  vPop, q_kPop2, q_kPop3, q_kPop4, wE_callK, q_kCallK, vCallK2, q_kCK2, q_kCK3, q_kCK4, q_kCK5, wF_ret, putBack, wQ_next, wQ_ret, cast0, kThn_next, kThn_ret, kThn_brk, kThn_cont, wT_nil, wT_retN, wT_brk, wT_cont, 
  wT_pass, wT_set, vSet, wT_asg, vAsg, q_kAsg2, wT_par, vPar, wT_ret, q_kRet, wT_expr, q_kExpr, wT_ite, q_kIf, wT_mut, vMut, q_kMu2, q_kMu3, q_kMu4, wT_ext, vExt, q_kExt2, kExt.seqL, wT_store, 
  q_kStore, vStore2, q_kSt3, q_kSt4, q_kSt5, vorF_at, q_kPut, wT_for, q_kFor, kFr, kTurn_next, kTurn_cont, kTurn_brk, kTurn_ret, kJ_next, kJ_ret, Pz.opnd, Pz.pureE, Pz.pureEs, Pz.stands, itemsS_tup, itemsS_list, itemsS_scr, itemsS_str, itemsS_lst, items_tup, items_list, items_scr, items_lst, Pz.leafOf, 
  leaves, isLeaf_leaf, isLeaf_lst, isLeaf_dct, isLeaf_scr, isLeaf_rng, free_leaf, free_lst, free_dct, free_scr, free_rng, flat_leaf, flat_lst, Pz.getSlot, Pz.setSlot, setSlots, Pz.bindIo, bindP_v, bindP_t, bindPs_nil, bindPs_cons, keyOf_str, keyOf_int, patVs, patsVs, wipeR_nil, wipeR_cons, 
  slotOk_none, slotOk_leaf, takeIt, takeOut, takeOuts, putIt, Pz.putIn, ioIt, ioOp, ioOf, restore, allBack, Pz.outsOf, O.map1, isNop, ioOps0, putIns0, Pz.isLst, Pz.isCon, stepsD, stepD, 
  onPath, isL, isC, mutT, extT, storeT_dct, sl_0, sl_1, sl_2, il_0, il_1, il_2, it_0, it_1, it_2, it_3, Option.isSome_some, List.isEmpty_nil, cmp_eqI, cmp_neI, cmp_ltI, cmp_gtI, cmp_leI, cmp_geI, bin_addI, bin_addT, bin_subI, bin_mulR, bin_mulL, bin_mulI, 
  bin_modI, bin_divL, Nat.reducePow, Int.reduceLT, Int.reduceEq, Int.reduceNe, Int.reduceLE, Int.reduceAdd, Int.reduceSub, Int.reduceMul, Int.reduceNeg, Int.reduceToNat, len_lst, len_tup, leaves_ints, 
  leaves_map, tup_lst, tInts_len, List.getElem?_cons_zero, List.getElem?_cons_succ, List.set_cons_zero, List.set_cons_succ, List.length_cons, List.zip_cons_cons, List.zip_nil_left, List.length_nil, List.length_map, List.map_cons, 
  List.map_nil, List.cons_append, List.nil_append, List.replicate, List.any_cons, List.any_nil, List.append_nil, Nat.sub_self, Nat.reduceSub, Nat.reduceAdd, Nat.reduceLeDiff, 
  Nat.reduceEqDiff, ↓reduceIte, ite_self, reduceCtorEq, ne_eq, not_false_eq_true, not_true_eq_false, true_and, and_true, false_and, and_false, true_or, or_true, false_or, or_false, 
  Bool.or_false, Bool.or_true, Bool.false_or, Bool.true_or, Bool.and_true, Bool.true_and, Bool.and_self, Bool.or_self, if_true, if_false, Pz.isTy, Pz.kdOf, isKd, szE, Nat.reduceLT, 
  Option.map_some, decide_true, decide_false, Bool.false_eq_true, List.mem_cons, List.not_mem_nil, Nat.lt_irrefl, Nat.le_refl, wOp_non, vompF_non, wOp_bl, vompF_bl, wOp_int, vompF_int, wOp_str, vompF_str, wOp_var, vompF_var, wOp_glob, vompF_glob, wOp_tup, vompF_tup, wOp_lst, vompF_lst, wOp_dct, vompF_dct, wOp_bin, vompF_bin, wOp_neg, vompF_neg, wOp_cmp, vompF_cmp, wOp_chain, vompF_chain, wOp_and, vompF_and, wOp_or, vompF_or, wOp_not, vompF_not, wOp_ite, vompF_ite, wOp_idx, vompF_idx, wOp_slice, vompF_slice, wOp_rev, vompF_rev, wOp_call, vompF_call, wOp_f1, vompF_f1, wOp_f2, vompF_f2, wOp_isi, vompF_isi, wOp_comp, vompF_comp, wOp_pop, vompF_pop, wOp_mt, vompF_mt, wOp_gidx, vompF_gidx, wOp_frz, vompF_frz, big62_of, int_int, abs_int, tInts_snoc, tStrs_snoc, tStrs_len, leaves_strs, Pz.isLst, onPath, permL, *])
/-! ### the basket -/
def basT (eggs : List Int) (straw turns : Int) (wonts : List Int) : T := .lst [.lst (tInts eggs), .leaf (.int straw), .leaf (.int turns), .lst (tInts wonts)]
def Bas (t : T) : Prop := ∃ eggs straw turns wonts, t = basT eggs straw turns wonts ∧ eggs.length ≤ 63 ∧ wonts.length = 7
theorem bas_free {t : T} (h : Bas t) : t.free = false := by
  obtain ⟨_, _, _, _, rfl, _⟩ := h; rfl
theorem wp_taken {n : Nat} {t : T} {place many : Int} {Q : T → List (Option T) → Prop} (hm : Bas t) (p0 : 0 ≤ place) (p1 : place < 7) (h0 : 1 ≤ many) (h1 : many < 1073741824)
    (k : ∀ t' v, Bas t' → 0 ≤ v → v < many → t'.free = false → Q (.leaf (.int v)) [some t', none, none]) : wF (run tbl.fn (n + 1) 5 [t, .leaf (.int place), .leaf (.int many)]) Q := by
  refine wF_imp (Q := fun t o => ∃ t' v, Bas t' ∧ 0 ≤ v ∧ v < many ∧ t = .leaf (.int v) ∧ o = [some t', none, none]) ?_ (fun t o h => by obtain ⟨t', v, h1, h2, h3, rfl, rfl⟩ := h; exact k t' v h1 h2 h3 (bas_free h1))
  clear k
  obtain ⟨eggs, straw, turns, wonts, rfl, he, hw⟩ := hm
  rw [wF_run (np := 3) (nv := 5) (body := b__law_taken) rfl rfl]
  unfold b__law_taken basT
  by_cases hs : many < 2
  · have fin := Fact.mk (show Bas (basT eggs straw turns wonts) from ⟨_, _, _, _, rfl, he, hw⟩)
    unfold basT at fin
    have h0' := Fact.mk h0
    clear he hw p0 p1 h0
    walk_at "px*"
    exact ⟨_, 0, fin.out, by omega, by have := h0'.out; omega, rfl, rfl⟩
  · have q1 := @pl4_0
    have q2 := @ch4_0
    have q3 := @sc4_0
    have q4 := @il4_3
    have h0' : (0 : Int) < many := by omega
    rcases List.eq_nil_or_concat eggs with rfl | ⟨r, x, rfl⟩
    · have z : tInts [] = [] := rfl
      obtain ⟨wont, _, e1⟩ := at_ints (ns := wonts) (i := place) p0 (by omega)
      have fin := Fact.mk (fun straw => show Bas (basT [] straw (turns + 1) wonts) from ⟨_, _, _, _, rfl, he, hw⟩)
      unfold basT at fin
      have hsF := Fact.mk hs
      clear he hw p0 p1 h0
      have c1 : ¬ many < 2 := hsF.out
      by_cases w0 : wont = 0
      · subst w0
        walk_at "px*"
        exact ⟨_, 0, fin.out _, by omega, by omega, rfl, rfl⟩
      · by_cases w1 : wont = 1
        · subst w1
          walk_at "px*"
          exact ⟨_, many - 1, fin.out _, by omega, by omega, rfl, rfl⟩
        · walk_at "px*"
          exact ⟨_, _, fin.out _, Int.emod_nonneg _ (by omega), Int.emod_lt_of_pos _ h0', rfl, rfl⟩
    · rw [List.concat_eq_append] at *
      rw [List.length_append] at he
      have he : r.length + 1 ≤ 63 := he
      have z1 : decide ((0 : Int) < ((r ++ [x]).length : Int)) = true := by
        rw [List.length_append, List.length_cons, List.length_nil]
        exact decide_eq_true (by omega)
      have p1' : popT none (.lst (tInts (r ++ [x]))) = some (.leaf (.int x), .lst (tInts r)) := by rw [tInts_app]; exact pop_last
      have l1 : r.length < 16777216 := by omega
      have finA := Fact.mk (show Bas (basT r straw (turns + 1) wonts) from ⟨_, _, _, _, rfl, by omega, hw⟩)
      have finB := Fact.mk (fun y => show Bas (basT (r ++ [y]) straw (turns + 1) wonts) from ⟨_, _, _, _, rfl, by rw [List.length_append]; exact he, hw⟩)
      unfold basT at finA finB
      clear he hw p0 p1 h0
      by_cases hx : many ≤ x
      · walk_at "px*"
        exact ⟨_, _, finB.out (x / many), Int.emod_nonneg _ (by omega), Int.emod_lt_of_pos _ h0', rfl, rfl⟩
      · walk_at "px*"
        exact ⟨_, _, finA.out, Int.emod_nonneg _ (by omega), Int.emod_lt_of_pos _ h0', rfl, rfl⟩
end L
namespace L
open PySem Pz PySem.W
local macro_rules | `(tactic| walk_at "px") => `(tactic| simp (implicitDefEqProofs := false) only [wE_non, wE_bl, wE_int, wE_str, wE_glob, vE_varR, q_kAt, q_kGo, wE_varM, wO_some, wO_none, mvK_leaf, mvK_scr, mvK_lst, mvK_dct, wE_bin, q_kBin, vBin2, q_kBin3, wE_neg, vNeg, q_kNeg2, asInt, 
  wE_cmp, q_kCmp, vCmp2, q_kCmp3, kB_at, wC_cmp, vTru, wC_var, wC_and, wC_call, wC_idx, wC_f1, wC_bin, wC_mt, wC_bl, is_nn, is_in, is_tn, is_sn, isnot_nn, isnot_in, isnot_tn, isnot_sn, truth_none, truth_bool, truth_int, truth_tup, truth_lst, Bool.not_true, Bool.not_false,  wC_or, wC_not, q_isAnd, q_isOr, q_isNot, wE_idx, q_kIdx, vIdx2, q_kIdx3, q_kIdx4, q_kIdx5, wE_tup, vTup, q_kTup2, wE_lst, q_kLst, 
  wEs_nil, wEs_non, wEs_bl, wEs_int, wEs_str, wEs_glob, wEs_tup, wEs_lst, wEs_dct, wEs_bin, wEs_neg, wEs_cmp, wEs_chain, wEs_and, wEs_or, wEs_not, wEs_ite, wEs_idx, wEs_slice, wEs_rev, wEs_call, wEs_call0, wEs_callK, wEs_f1, wEs_f2, wEs_isi, wEs_comp, wEs_pop, wEs_mt, wEs_gidx, wEs_frz, wEs_var, q_kVar, q_kVarT, wEsO_nil, wEsO_cons, q_kEsO, q_kEs, q_kEsT, wE_call0, q_kC0, wC_call0, wE_call, vCall, q_kCall2, wE_f1, vF1, wE_isi, wC_isi, vIsi, wE_ite, vIte, q_kIte2, wE_f2, q_kF2, vF22, wI_seq, vSeq, wI_rng1, wE_lrng, lrng_t, lrng_l, wEs_lrng, wI_rng2, kR20_at, kR21_at, wI_rng3, kR30_at, kR31_at, big_m1, vRng1, q_kRng2, wI_enum, vEnum, 
  q_kEnum2, wI_zip, q_kZip, vZip2, q_kZip3, q_kZip4, q_kZip5, q_kZip6, wE_comp, vComp, q_kComp2, q_kCompE, vompF_nop, q_kBd, q_kBc, q_kEnd2, vEnd, vYes, wE_chain, wC_chain, q_kCh, q_kCh2, vCh3, q_kChB, wE_dct, 
  q_kDct, wE_and, vVAnd, q_kVAnd3, q_kVAnd4, q_kVAnd2, wE_or, vVOr, q_kVOr3, q_kVOr4, wE_not, vVNot, q_kVNot2, wOp_nop, vOpt, q_kOpt2, wE_slice, q_kSl, q_kSl2, vSl3, q_kSl4, wE_rev, vRev, q_kRev2, wE_pop, 
  vPop, q_kPop2, q_kPop3, q_kPop4, wE_callK, q_kCallK, vCallK2, q_kCK2, q_kCK3, q_kCK4, q_kCK5, wF_ret, putBack, wQ_next, wQ_ret, cast0, kThn_next, kThn_ret, kThn_brk, kThn_cont, wT_nil, wT_retN, wT_brk, wT_cont, 
  wT_pass, wT_set, vSet, wT_asg, vAsg, q_kAsg2, wT_par, vPar, wT_ret, q_kRet, wT_expr, q_kExpr, wT_ite, q_kIf, wT_mut, vMut, q_kMu2, q_kMu3, q_kMu4, wT_ext, vExt, q_kExt2, kExt.seqL, wT_store, 
  q_kStore, vStore2, q_kSt3, q_kSt4, q_kSt5, vorF_at, q_kPut, wT_for, q_kFor, kFr, kTurn_next, kTurn_cont, kTurn_brk, kTurn_ret, kJ_next, kJ_ret, Pz.opnd, Pz.pureE, Pz.pureEs, Pz.stands, itemsS_tup, itemsS_list, itemsS_scr, itemsS_str, itemsS_lst, items_tup, items_list, items_scr, items_lst, Pz.leafOf, 
  leaves, isLeaf_leaf, isLeaf_lst, isLeaf_dct, isLeaf_scr, isLeaf_rng, free_leaf, free_lst, free_dct, free_scr, free_rng, flat_leaf, flat_lst, Pz.getSlot, Pz.setSlot, setSlots, Pz.bindIo, bindP_v, bindP_t, bindPs_nil, bindPs_cons, keyOf_str, keyOf_int, patVs, patsVs, wipeR_nil, wipeR_cons, 
  slotOk_none, slotOk_leaf, takeIt, takeOut, takeOuts, putIt, Pz.putIn, ioIt, ioOp, ioOf, restore, allBack, Pz.outsOf, O.map1, isNop, ioOps0, putIns0, Pz.isLst, Pz.isCon, stepsD, stepD, 
  onPath, isL, isC, mutT, extT, storeT_dct, sl_0, sl_1, sl_2, il_0, il_1, il_2, it_0, it_1, it_2, it_3, Option.isSome_some, List.isEmpty_nil, cmp_eqI, cmp_neI, cmp_ltI, cmp_gtI, cmp_leI, cmp_geI, bin_addI, bin_addT, bin_subI, bin_mulR, bin_mulL, bin_mulI, 
  bin_modI, bin_divL, Nat.reducePow, Int.reduceLT, Int.reduceEq, Int.reduceNe, Int.reduceLE, Int.reduceAdd, Int.reduceSub, Int.reduceMul, Int.reduceNeg, Int.reduceToNat, len_lst, len_tup, leaves_ints, 
  leaves_map, tup_lst, tInts_len, List.getElem?_cons_zero, List.getElem?_cons_succ, List.set_cons_zero, List.set_cons_succ, List.length_cons, List.zip_cons_cons, List.zip_nil_left, List.length_nil, List.length_map, List.map_cons, 
  List.map_nil, List.cons_append, List.nil_append, List.replicate, List.any_cons, List.any_nil, List.append_nil, Nat.sub_self, Nat.reduceSub, Nat.reduceAdd, Nat.reduceLeDiff, 
  Nat.reduceEqDiff, ↓reduceIte, ite_self, reduceCtorEq, ne_eq, not_false_eq_true, not_true_eq_false, true_and, and_true, false_and, and_false, true_or, or_true, false_or, or_false, 
  Bool.or_false, Bool.or_true, Bool.false_or, Bool.true_or, Bool.and_true, Bool.true_and, Bool.and_self, Bool.or_self, if_true, if_false, Pz.isTy, Pz.kdOf, isKd, szE, Nat.reduceLT, 
  Option.map_some, decide_true, decide_false, Bool.false_eq_true, List.mem_cons, List.not_mem_nil, Nat.lt_irrefl, Nat.le_refl, wOp_non, vompF_non, wOp_bl, vompF_bl, wOp_int, vompF_int, wOp_str, vompF_str, wOp_var, vompF_var, wOp_glob, vompF_glob, wOp_tup, vompF_tup, wOp_lst, vompF_lst, wOp_dct, vompF_dct, wOp_bin, vompF_bin, wOp_neg, vompF_neg, wOp_cmp, vompF_cmp, wOp_chain, vompF_chain, wOp_and, vompF_and, wOp_or, vompF_or, wOp_not, vompF_not, wOp_ite, vompF_ite, wOp_idx, vompF_idx, wOp_slice, vompF_slice, wOp_rev, vompF_rev, wOp_call, vompF_call, wOp_f1, vompF_f1, wOp_f2, vompF_f2, wOp_isi, vompF_isi, wOp_comp, vompF_comp, wOp_pop, vompF_pop, wOp_mt, vompF_mt, wOp_gidx, vompF_gidx, wOp_frz, vompF_frz, big62_of, int_int, abs_int, tInts_snoc, tStrs_snoc, tStrs_len, leaves_strs, Pz.isLst, onPath, permL])
local macro_rules | `(tactic| walk_at "px*") => `(tactic| simp (implicitDefEqProofs := false) only [wE_non, wE_bl, wE_int, wE_str, wE_glob, vE_varR, q_kAt, q_kGo, wE_varM, wO_some, wO_none, mvK_leaf, mvK_scr, mvK_lst, mvK_dct, wE_bin, q_kBin, vBin2, q_kBin3, wE_neg, vNeg, q_kNeg2, asInt, 
  wE_cmp, q_kCmp, vCmp2, q_kCmp3, kB_at, wC_cmp, vTru, wC_var, wC_and, wC_call, wC_idx, wC_f1, wC_bin, wC_mt, wC_bl, is_nn, is_in, is_tn, is_sn, isnot_nn, isnot_in, isnot_tn, isnot_sn, truth_none, truth_bool, truth_int, truth_tup, truth_lst, Bool.not_true, Bool.not_false,  wC_or, wC_not, q_isAnd, q_isOr, q_isNot, wE_idx, q_kIdx, vIdx2, q_kIdx3, q_kIdx4, q_kIdx5, wE_tup, vTup, q_kTup2, wE_lst, q_kLst, 
  wEs_nil, wEs_non, wEs_bl, wEs_int, wEs_str, wEs_glob, wEs_tup, wEs_lst, wEs_dct, wEs_bin, wEs_neg, wEs_cmp, wEs_chain, wEs_and, wEs_or, wEs_not, wEs_ite, wEs_idx, wEs_slice, wEs_rev, wEs_call, wEs_call0, wEs_callK, wEs_f1, wEs_f2, wEs_isi, wEs_comp, wEs_pop, wEs_mt, wEs_gidx, wEs_frz, wEs_var, q_kVar, q_kVarT, wEsO_nil, wEsO_cons, q_kEsO, q_kEs, q_kEsT, wE_call0, q_kC0, wC_call0, wE_call, vCall, q_kCall2, wE_f1, vF1, wE_isi, wC_isi, vIsi, wE_ite, vIte, q_kIte2, wE_f2, q_kF2, vF22, wI_seq, vSeq, wI_rng1, wE_lrng, lrng_t, lrng_l, wEs_lrng, wI_rng2, kR20_at, kR21_at, wI_rng3, kR30_at, kR31_at, big_m1, vRng1, q_kRng2, wI_enum, vEnum, 
  q_kEnum2, wI_zip, q_kZip, vZip2, q_kZip3, q_kZip4, q_kZip5, q_kZip6, wE_comp, vComp, q_kComp2, q_kCompE, vompF_nop, q_kBd, q_kBc, q_kEnd2, vEnd, vYes, wE_chain, wC_chain, q_kCh, q_kCh2, vCh3, q_kChB, wE_dct, 
  q_kDct, wE_and, vVAnd, q_kVAnd3, q_kVAnd4, q_kVAnd2, wE_or, vVOr, q_kVOr3, q_kVOr4, wE_not, vVNot, q_kVNot2, wOp_nop, vOpt, q_kOpt2, wE_slice, q_kSl, q_kSl2, vSl3, q_kSl4, wE_rev, vRev, q_kRev2, wE_pop, 
  vPop, q_kPop2, q_kPop3, q_kPop4, wE_callK, q_kCallK, vCallK2, q_kCK2, q_kCK3, q_kCK4, q_kCK5, wF_ret, putBack, wQ_next, wQ_ret, cast0, kThn_next, kThn_ret, kThn_brk, kThn_cont, wT_nil, wT_retN, wT_brk, wT_cont, 
  wT_pass, wT_set, vSet, wT_asg, vAsg, q_kAsg2, wT_par, vPar, wT_ret, q_kRet, wT_expr, q_kExpr, wT_ite, q_kIf, wT_mut, vMut, q_kMu2, q_kMu3, q_kMu4, wT_ext, vExt, q_kExt2, kExt.seqL, wT_store, 
  q_kStore, vStore2, q_kSt3, q_kSt4, q_kSt5, vorF_at, q_kPut, wT_for, q_kFor, kFr, kTurn_next, kTurn_cont, kTurn_brk, kTurn_ret, kJ_next, kJ_ret, Pz.opnd, Pz.pureE, Pz.pureEs, Pz.stands, itemsS_tup, itemsS_list, itemsS_scr, itemsS_str, itemsS_lst, items_tup, items_list, items_scr, items_lst, Pz.leafOf, 
  leaves, isLeaf_leaf, isLeaf_lst, isLeaf_dct, isLeaf_scr, isLeaf_rng, free_leaf, free_lst, free_dct, free_scr, free_rng, flat_leaf, flat_lst, Pz.getSlot, Pz.setSlot, setSlots, Pz.bindIo, bindP_v, bindP_t, bindPs_nil, bindPs_cons, keyOf_str, keyOf_int, patVs, patsVs, wipeR_nil, wipeR_cons, 
  slotOk_none, slotOk_leaf, takeIt, takeOut, takeOuts, putIt, Pz.putIn, ioIt, ioOp, ioOf, restore, allBack, Pz.outsOf, O.map1, isNop, ioOps0, putIns0, Pz.isLst, Pz.isCon, stepsD, stepD, 
  onPath, isL, isC, mutT, extT, storeT_dct, sl_0, sl_1, sl_2, il_0, il_1, il_2, it_0, it_1, it_2, it_3, Option.isSome_some, List.isEmpty_nil, cmp_eqI, cmp_neI, cmp_ltI, cmp_gtI, cmp_leI, cmp_geI, bin_addI, bin_addT, bin_subI, bin_mulR, bin_mulL, bin_mulI, 
  bin_modI, bin_divL, Nat.reducePow, Int.reduceLT, Int.reduceEq, Int.reduceNe, Int.reduceLE, Int.reduceAdd, Int.reduceSub, Int.reduceMul, Int.reduceNeg, Int.reduceToNat, len_lst, len_tup, leaves_ints, 
  leaves_map, tup_lst, tInts_len, List.getElem?_cons_zero, List.getElem?_cons_succ, List.set_cons_zero, List.set_cons_succ, List.length_cons, List.zip_cons_cons, List.zip_nil_left, List.length_nil, List.length_map, List.map_cons, 
  List.map_nil, List.cons_append, List.nil_append, List.replicate, List.any_cons, List.any_nil, List.append_nil, Nat.sub_self, Nat.reduceSub, Nat.reduceAdd, Nat.reduceLeDiff, 
  Nat.reduceEqDiff, ↓reduceIte, ite_self, reduceCtorEq, ne_eq, not_false_eq_true, not_true_eq_false, true_and, and_true, false_and, and_false, true_or, or_true, false_or, or_false, 
  Bool.or_false, Bool.or_true, Bool.false_or, Bool.true_or, Bool.and_true, Bool.true_and, Bool.and_self, Bool.or_self, if_true, if_false, Pz.isTy, Pz.kdOf, isKd, szE, Nat.reduceLT, 
  Option.map_some, decide_true, decide_false, Bool.false_eq_true, List.mem_cons, List.not_mem_nil, Nat.lt_irrefl, Nat.le_refl, wOp_non, vompF_non, wOp_bl, vompF_bl, wOp_int, vompF_int, wOp_str, vompF_str, wOp_var, vompF_var, wOp_glob, vompF_glob, wOp_tup, vompF_tup, wOp_lst, vompF_lst, wOp_dct, vompF_dct, wOp_bin, vompF_bin, wOp_neg, vompF_neg, wOp_cmp, vompF_cmp, wOp_chain, vompF_chain, wOp_and, vompF_and, wOp_or, vompF_or, wOp_not, vompF_not, wOp_ite, vompF_ite, wOp_idx, vompF_idx, wOp_slice, vompF_slice, wOp_rev, vompF_rev, wOp_call, vompF_call, wOp_f1, vompF_f1, wOp_f2, vompF_f2, wOp_isi, vompF_isi, wOp_comp, vompF_comp, wOp_pop, vompF_pop, wOp_mt, vompF_mt, wOp_gidx, vompF_gidx, wOp_frz, vompF_frz, big62_of, int_int, abs_int, tInts_snoc, tStrs_snoc, tStrs_len, leaves_strs, Pz.isLst, onPath, permL, *])
def big : Int := 2 ^ 2000
theorem big_pos : 0 < big := Int.pow_pos (by decide)
theorem shl_big : binOp .shl (.leaf (.int 1)) (.leaf (.int 2000)) = some (.leaf (.int big)) := by
  show some (T.leaf (.int (1 * 2 ^ (2000 : Int).toNat))) = _
  rw [Int.one_mul]; rfl
theorem pow15 : binOp .pow (.leaf (.int 10)) (.leaf (.int 15)) = some (.leaf (.int 1000000000000000)) := by kernel_rfl
theorem slice_scr {ns : List Int} : sliceT (.scr ns) none (some 44) = some (.lst (tInts (ns.take 44))) := by
  show some (T.lst (((ns.drop 0).take ((if (44 : Int) < 0 then (44 + (ns.length : Int)).toNat else min (44 : Int).toNat ns.length) - 0)).map fun n => T.leaf (.int n))) = _
  rw [if_neg (by omega), List.drop_zero, Nat.sub_zero]
  unfold tInts
  congr 3
  rw [List.take_eq_take_iff]
  show min (min 44 ns.length) ns.length = min 44 ns.length
  omega
theorem wp_basket {n : Nat} {ns : List Int} {Q : T → List (Option T) → Prop} (k : ∀ t, Bas t → t.free = false → Q t [none]) : wF (run tbl.fn (n + 1) 4 [.scr ns]) Q := by
  refine wF_imp (Q := fun t o => Bas t ∧ o = [none]) ?_ (fun t o h => by obtain ⟨h1, rfl⟩ := h; exact k t h1 (bas_free h1))
  clear k
  rw [wF_run (np := 1) (nv := 8) (body := b__law_basket) rfl rfl]
  unfold b__law_basket
  have e1 := @slice_scr ns
  have e2 := shl_big
  have e3 := big_pos
  have e4 := pow15
  have ht : (ns.take 44).length ≤ 44 := by rw [List.length_take]; omega
  generalize ns.take 44 = xs at *
  walk_at "px*"
  refine forM_inv (fun j ρ => ∃ (straw : Int) (eggs : List Int) (c3 c7 : Option T), Fact (eggs.length ≤ j) ∧ slotOk (some c3) = true ∧ ρ = [some (.scr ns), some (.leaf (.int straw)), some (.lst (tInts eggs)), c3, none, none, none, c7]) ⟨30071, [], none, none, ⟨Nat.le_refl _⟩, rfl, rfl⟩ ?_ ?_
  · intro j d ρ hd hI
    obtain ⟨straw, eggs, c3, c7, hl, hc3, rfl⟩ := hI
    rw [List.getElem?_map] at hd
    cases hj : xs[j]? with
    | none => rw [hj] at hd; cases hd
    | some y =>
      rw [hj] at hd
      simp only [Option.map_some, Option.some.injEq] at hd
      subst hd
      have hjl := get_lt hj
      have l1 : eggs.length < 16777216 := by have := hl.out; omega
      have htF := Fact.mk ht
      clear hj hjl ht
      generalize hsz : (if y < 0 then -y else y) % big = size at *
      by_cases hx : 1000000000000000 ≤ size
      · walk_at "px*"
        exact ⟨_, size :: eggs, _, _, ⟨by have := hl.out; rw [List.length_cons]; omega⟩, rfl, rfl⟩
      · walk_at "px*"
        exact ⟨_, eggs, _, _, ⟨by have := hl.out; omega⟩, rfl, rfl⟩
  · intro ρ hI
    obtain ⟨straw, eggs, c3, c7, hl, hc3, rfl⟩ := hI
    rw [List.length_map] at hl
    have g := rng_at (i := 7) (by omega) (by omega)
    have he := Fact.mk (show eggs.length ≤ 63 by have := hl.out; omega)
    clear ht hl
    walk_at "px*"
    generalize hrs : rngD 7 = rs
    refine forM_inv (fun j ρ => ∃ (wonts : List Int) (rest : Int) (c6 : Option T), Fact (wonts.length = j) ∧ slotOk (some c6) = true ∧ ρ = [some (.scr ns), some (.leaf (.int straw)), some (.lst (tInts eggs)), c3, some (.lst (tInts wonts)), some (.leaf (.int rest)), c6, c7]) ⟨[], straw, none, ⟨rfl⟩, rfl, rfl⟩ ?_ ?_
    all_goals subst hrs
    · intro j d ρ hd hI
      obtain ⟨wonts, rest, c6, hl, hc6, rfl⟩ := hI
      obtain ⟨hj, rfl⟩ := rngD_get hd
      have l1 : wonts.length < 16777216 := by have := hl.out; omega
      have m1 : mulOk 11 (j : Int) = true := mulOk_l (by decide)
      clear hd
      walk_at "px*"
      exact ⟨_, _, _, ⟨by rw [List.length_append, hl.out]; rfl⟩, rfl, rfl⟩
    · intro ρ hI
      obtain ⟨wonts, rest, c6, hl, hc6, rfl⟩ := hI
      rw [rngD_len] at hl
      walk_at "px*"
      exact ⟨eggs, straw, 0, wonts, rfl, he.out, hl.out⟩
/-! ### drawn boxes -/
def bitsT (w f : Int) : Bool := (w = 0 ∧ 0 < f) ∨ (w = 1 ∧ f = 0) ∨ (w = 3 ∧ f = 1)
theorem pick4 {a b c d : D} {v : Int} (h0 : 0 ≤ v) (h1 : v < 4) : ∃ x, (x = a ∨ x = b ∨ x = c ∨ x = d) ∧ idxT (.leaf (.tuple [a, b, c, d])) (.int v) = some (.leaf x) := by
  have : v = 0 ∨ v = 1 ∨ v = 2 ∨ v = 3 := by omega
  rcases this with rfl | rfl | rfl | rfl
  · exact ⟨a, .inl rfl, rfl⟩
  · exact ⟨b, .inr (.inl rfl), rfl⟩
  · exact ⟨c, .inr (.inr (.inl rfl)), rfl⟩
  · exact ⟨d, .inr (.inr (.inr rfl)), rfl⟩
def BoxI (c : Int) (w : Int) (j : Nat) (ρ : Rho) : Prop := ∃ (t : T) (b : Box) (c4 c5 c6 : Option T), Bas t ∧ Fact (b.length = j) ∧ slotOk (some c4) = true ∧ ρ = [some t, some (.leaf (.int c)), some (.leaf (.int w)), some (.lst ((b.map partD).map .leaf)), c4, c5, c6]
theorem wp_box {n c : Nat} {t : T} {Q : T → List (Option T) → Prop} (hm : Bas t) (hc : c ≤ 6) (k : ∀ t' b, Bas t' → b.length = c → t'.free = false → Q (.leaf (boxD b)) [some t', none]) : wF (run tbl.fn (n + 2) 6 [t, .leaf (.int (c : Int))]) Q := by
  rw [wF_run (np := 2) (nv := 7) (body := b__law_box) rfl rfl]
  unfold b__law_box
  have f0 := bas_free hm
  have f1 := @mvK_of
  have g1 := rng_at (i := (c : Int)) (by omega) (by omega)
  have k := Fact.mk k
  walk_at "px*"
  refine wp_taken hm (by omega) (by omega) (by omega) (by omega) fun t1 w hm1 w0 w1 f2 => ?_
  walk_at "px*"
  refine forM_inv (BoxI c w) ⟨t1, [], none, none, none, hm1, ⟨rfl⟩, rfl, rfl⟩ ?_ ?_
  · intro j d ρ hd hI
    obtain ⟨t2, b, c4, c5, c6, hm2, hl, hc4, rfl⟩ := hI
    obtain ⟨hj, rfl⟩ := rngD_get hd
    have f3 := bas_free hm2
    clear hd f2
    walk_at "px*"
    refine wp_taken hm2 (by omega) (by omega) (by omega) (by omega) fun t3 f hm3 f0' f1' f4 => ?_
    obtain ⟨x, hx, e1⟩ := pick4 (a := .bool (decide (0 < f))) (b := .bool (decide (f = 0))) (c := .bool false) (d := .bool (decide (f = 1))) w0 w1
    obtain ⟨bo, rfl⟩ : ∃ bo, x = .bool bo := by
      rcases hx with rfl | rfl | rfl | rfl <;> exact ⟨_, rfl⟩
    have l1 : b.length < 16777216 := by have := hl.out; omega
    have fin : ∀ (t : T) (p : Part) (c4 c5 c6 : Option T), Bas t → slotOk (some c4) = true → BoxI c w (j + 1) [some t, some (.leaf (.int (c : Int))), some (.leaf (.int w)), some (.lst ((b.map partD).map .leaf ++ [.leaf (partD p)])), c4, c5, c6] := fun t p c4 c5 c6 h1 h2 =>
      ⟨t, b ++ [p], c4, c5, c6, h1, ⟨by rw [List.length_append, hl.out]; rfl⟩, h2, by rw [List.map_append, List.map_append]; rfl⟩
    have fin := Fact.mk fin
    cases bo with
    | true =>
      walk_at "px*"
      exact fin.out t3 .b _ _ _ hm3 rfl
    | false =>
      walk_at "px*"
      refine wp_taken hm3 (by omega) (by omega) (by omega) (by omega) fun t4 v hm4 v0 v1 f5 => ?_
      have hv : v = 0 ∨ v = 1 := by omega
      rcases hv with rfl | rfl
      · walk_at "px*"
        exact fin.out t4 .o _ _ _ hm4 rfl
      · walk_at "px*"
        exact fin.out t4 .i _ _ _ hm4 rfl
  · intro ρ hI
    obtain ⟨t2, b, c4, c5, c6, hm2, hl, hc4, rfl⟩ := hI
    rw [rngD_len, Int.toNat_natCast] at hl
    have f3 := bas_free hm2
    have q1 := k.out t2 b hm2 hl.out f3
    have e1 := @tup_lst (b.map partD)
    unfold boxD at q1
    clear f2 k
    walk_at "px*"
end L
namespace L
open PySem Pz PySem.W
local macro_rules | `(tactic| walk_at "px") => `(tactic| simp (implicitDefEqProofs := false) only [wE_non, wE_bl, wE_int, wE_str, wE_glob, vE_varR, q_kAt, q_kGo, wE_varM, wO_some, wO_none, mvK_leaf, mvK_scr, mvK_lst, mvK_dct, wE_bin, q_kBin, vBin2, q_kBin3, wE_neg, vNeg, q_kNeg2, asInt, 
  wE_cmp, q_kCmp, vCmp2, q_kCmp3, kB_at, wC_cmp, vTru, wC_var, wC_and, wC_call, wC_idx, wC_f1, wC_bin, wC_mt, wC_bl, is_nn, is_in, is_tn, is_sn, isnot_nn, isnot_in, isnot_tn, isnot_sn, truth_none, truth_bool, truth_int, truth_tup, truth_lst, Bool.not_true, Bool.not_false,  wC_or, wC_not, q_isAnd, q_isOr, q_isNot, wE_idx, q_kIdx, vIdx2, q_kIdx3, q_kIdx4, q_kIdx5, wE_tup, vTup, q_kTup2, wE_lst, q_kLst, 
  wEs_nil, wEs_non, wEs_bl, wEs_int, wEs_str, wEs_glob, wEs_tup, wEs_lst, wEs_dct, wEs_bin, wEs_neg, wEs_cmp, wEs_chain, wEs_and, wEs_or, wEs_not, wEs_ite, wEs_idx, wEs_slice, wEs_rev, wEs_call, wEs_call0, wEs_callK, wEs_f1, wEs_f2, wEs_isi, wEs_comp, wEs_pop, wEs_mt, wEs_gidx, wEs_frz, wEs_var, q_kVar, q_kVarT, wEsO_nil, wEsO_cons, q_kEsO, q_kEs, q_kEsT, wE_call0, q_kC0, wC_call0, wE_call, vCall, q_kCall2, wE_f1, vF1, wE_isi, wC_isi, vIsi, wE_ite, vIte, q_kIte2, wE_f2, q_kF2, vF22, wI_seq, vSeq, wI_rng1, wE_lrng, lrng_t, lrng_l, wEs_lrng, wI_rng2, kR20_at, kR21_at, wI_rng3, kR30_at, kR31_at, big_m1, vRng1, q_kRng2, wI_enum, vEnum, 
  q_kEnum2, wI_zip, q_kZip, vZip2, q_kZip3, q_kZip4, q_kZip5, q_kZip6, wE_comp, vComp, q_kComp2, q_kCompE, vompF_nop, q_kBd, q_kBc, q_kEnd2, vEnd, vYes, wE_chain, wC_chain, q_kCh, q_kCh2, vCh3, q_kChB, wE_dct, 
  q_kDct, wE_and, vVAnd, q_kVAnd3, q_kVAnd4, q_kVAnd2, wE_or, vVOr, q_kVOr3, q_kVOr4, wE_not, vVNot, q_kVNot2, wOp_nop, vOpt, q_kOpt2, wE_slice, q_kSl, q_kSl2, vSl3, q_kSl4, wE_rev, vRev, q_kRev2, wE_pop, 
  vPop, q_kPop2, q_kPop3, q_kPop4, wE_callK, q_kCallK, vCallK2, q_kCK2, q_kCK3, q_kCK4, q_kCK5, wF_ret, putBack, wQ_next, wQ_ret, cast0, kThn_next, kThn_ret, kThn_brk, kThn_cont, wT_nil, wT_retN, wT_brk, wT_cont, 
  wT_pass, wT_set, vSet, wT_asg, vAsg, q_kAsg2, wT_par, vPar, wT_ret, q_kRet, wT_expr, q_kExpr, wT_ite, q_kIf, wT_mut, vMut, q_kMu2, q_kMu3, q_kMu4, wT_ext, vExt, q_kExt2, kExt.seqL, wT_store, 
  q_kStore, vStore2, q_kSt3, q_kSt4, q_kSt5, vorF_at, q_kPut, wT_for, q_kFor, kFr, kTurn_next, kTurn_cont, kTurn_brk, kTurn_ret, kJ_next, kJ_ret, Pz.opnd, Pz.pureE, Pz.pureEs, Pz.stands, itemsS_tup, itemsS_list, itemsS_scr, itemsS_str, itemsS_lst, items_tup, items_list, items_scr, items_lst, Pz.leafOf, 
  leaves, isLeaf_leaf, isLeaf_lst, isLeaf_dct, isLeaf_scr, isLeaf_rng, free_leaf, free_lst, free_dct, free_scr, free_rng, flat_leaf, flat_lst, Pz.getSlot, Pz.setSlot, setSlots, Pz.bindIo, bindP_v, bindP_t, bindPs_nil, bindPs_cons, keyOf_str, keyOf_int, patVs, patsVs, wipeR_nil, wipeR_cons, 
  slotOk_none, slotOk_leaf, takeIt, takeOut, takeOuts, putIt, Pz.putIn, ioIt, ioOp, ioOf, restore, allBack, Pz.outsOf, O.map1, isNop, ioOps0, putIns0, Pz.isLst, Pz.isCon, stepsD, stepD, 
  onPath, isL, isC, mutT, extT, storeT_dct, sl_0, sl_1, sl_2, il_0, il_1, il_2, it_0, it_1, it_2, it_3, Option.isSome_some, List.isEmpty_nil, cmp_eqI, cmp_neI, cmp_ltI, cmp_gtI, cmp_leI, cmp_geI, bin_addI, bin_addT, bin_subI, bin_mulR, bin_mulL, bin_mulI, 
  bin_modI, bin_divL, Nat.reducePow, Int.reduceLT, Int.reduceEq, Int.reduceNe, Int.reduceLE, Int.reduceAdd, Int.reduceSub, Int.reduceMul, Int.reduceNeg, Int.reduceToNat, len_lst, len_tup, leaves_ints, 
  leaves_map, tup_lst, tInts_len, List.getElem?_cons_zero, List.getElem?_cons_succ, List.set_cons_zero, List.set_cons_succ, List.length_cons, List.zip_cons_cons, List.zip_nil_left, List.length_nil, List.length_map, List.map_cons, 
  List.map_nil, List.cons_append, List.nil_append, List.replicate, List.any_cons, List.any_nil, List.append_nil, Nat.sub_self, Nat.reduceSub, Nat.reduceAdd, Nat.reduceLeDiff, 
  Nat.reduceEqDiff, ↓reduceIte, ite_self, reduceCtorEq, ne_eq, not_false_eq_true, not_true_eq_false, true_and, and_true, false_and, and_false, true_or, or_true, false_or, or_false, 
  Bool.or_false, Bool.or_true, Bool.false_or, Bool.true_or, Bool.and_true, Bool.true_and, Bool.and_self, Bool.or_self, if_true, if_false, Pz.isTy, Pz.kdOf, isKd, szE, Nat.reduceLT, 
  Option.map_some, decide_true, decide_false, Bool.false_eq_true, List.mem_cons, List.not_mem_nil, Nat.lt_irrefl, Nat.le_refl, wOp_non, vompF_non, wOp_bl, vompF_bl, wOp_int, vompF_int, wOp_str, vompF_str, wOp_var, vompF_var, wOp_glob, vompF_glob, wOp_tup, vompF_tup, wOp_lst, vompF_lst, wOp_dct, vompF_dct, wOp_bin, vompF_bin, wOp_neg, vompF_neg, wOp_cmp, vompF_cmp, wOp_chain, vompF_chain, wOp_and, vompF_and, wOp_or, vompF_or, wOp_not, vompF_not, wOp_ite, vompF_ite, wOp_idx, vompF_idx, wOp_slice, vompF_slice, wOp_rev, vompF_rev, wOp_call, vompF_call, wOp_f1, vompF_f1, wOp_f2, vompF_f2, wOp_isi, vompF_isi, wOp_comp, vompF_comp, wOp_pop, vompF_pop, wOp_mt, vompF_mt, wOp_gidx, vompF_gidx, wOp_frz, vompF_frz, big62_of, int_int, abs_int, tInts_snoc, tStrs_snoc, tStrs_len, leaves_strs, Pz.isLst, onPath, permL])
local macro_rules | `(tactic| walk_at "px*") => `(tactic| simp (implicitDefEqProofs := false) only [wE_non, wE_bl, wE_int, wE_str, wE_glob, vE_varR, q_kAt, q_kGo, wE_varM, wO_some, wO_none, mvK_leaf, mvK_scr, mvK_lst, mvK_dct, wE_bin, q_kBin, vBin2, q_kBin3, wE_neg, vNeg, q_kNeg2, asInt, 
  wE_cmp, q_kCmp, vCmp2, q_kCmp3, kB_at, wC_cmp, vTru, wC_var, wC_and, wC_call, wC_idx, wC_f1, wC_bin, wC_mt, wC_bl, is_nn, is_in, is_tn, is_sn, isnot_nn, isnot_in, isnot_tn, isnot_sn, truth_none, truth_bool, truth_int, truth_tup, truth_lst, Bool.not_true, Bool.not_false,  wC_or, wC_not, q_isAnd, q_isOr, q_isNot, wE_idx, q_kIdx, vIdx2, q_kIdx3, q_kIdx4, q_kIdx5, wE_tup, vTup, q_kTup2, wE_lst, q_kLst, 
  wEs_nil, wEs_non, wEs_bl, wEs_int, wEs_str, wEs_glob, wEs_tup, wEs_lst, wEs_dct, wEs_bin, wEs_neg, wEs_cmp, wEs_chain, wEs_and, wEs_or, wEs_not, wEs_ite, wEs_idx, wEs_slice, wEs_rev, wEs_call, wEs_call0, wEs_callK, wEs_f1, wEs_f2, wEs_isi, wEs_comp, wEs_pop, wEs_mt, wEs_gidx, wEs_frz, wEs_var, q_kVar, q_kVarT, wEsO_nil, wEsO_cons, q_kEsO, q_kEs, q_kEsT, wE_call0, q_kC0, wC_call0, wE_call, vCall, q_kCall2, wE_f1, vF1, wE_isi, wC_isi, vIsi, wE_ite, vIte, q_kIte2, wE_f2, q_kF2, vF22, wI_seq, vSeq, wI_rng1, wE_lrng, lrng_t, lrng_l, wEs_lrng, wI_rng2, kR20_at, kR21_at, wI_rng3, kR30_at, kR31_at, big_m1, vRng1, q_kRng2, wI_enum, vEnum, 
  q_kEnum2, wI_zip, q_kZip, vZip2, q_kZip3, q_kZip4, q_kZip5, q_kZip6, wE_comp, vComp, q_kComp2, q_kCompE, vompF_nop, q_kBd, q_kBc, q_kEnd2, vEnd, vYes, wE_chain, wC_chain, q_kCh, q_kCh2, vCh3, q_kChB, wE_dct, 
  q_kDct, wE_and, vVAnd, q_kVAnd3, q_kVAnd4, q_kVAnd2, wE_or, vVOr, q_kVOr3, q_kVOr4, wE_not, vVNot, q_kVNot2, wOp_nop, vOpt, q_kOpt2, wE_slice, q_kSl, q_kSl2, vSl3, q_kSl4, wE_rev, vRev, q_kRev2, wE_pop, 
  vPop, q_kPop2, q_kPop3, q_kPop4, wE_callK, q_kCallK, vCallK2, q_kCK2, q_kCK3, q_kCK4, q_kCK5, wF_ret, putBack, wQ_next, wQ_ret, cast0, kThn_next, kThn_ret, kThn_brk, kThn_cont, wT_nil, wT_retN, wT_brk, wT_cont, 
  wT_pass, wT_set, vSet, wT_asg, vAsg, q_kAsg2, wT_par, vPar, wT_ret, q_kRet, wT_expr, q_kExpr, wT_ite, q_kIf, wT_mut, vMut, q_kMu2, q_kMu3, q_kMu4, wT_ext, vExt, q_kExt2, kExt.seqL, wT_store, 
  q_kStore, vStore2, q_kSt3, q_kSt4, q_kSt5, vorF_at, q_kPut, wT_for, q_kFor, kFr, kTurn_next, kTurn_cont, kTurn_brk, kTurn_ret, kJ_next, kJ_ret, Pz.opnd, Pz.pureE, Pz.pureEs, Pz.stands, itemsS_tup, itemsS_list, itemsS_scr, itemsS_str, itemsS_lst, items_tup, items_list, items_scr, items_lst, Pz.leafOf, 
  leaves, isLeaf_leaf, isLeaf_lst, isLeaf_dct, isLeaf_scr, isLeaf_rng, free_leaf, free_lst, free_dct, free_scr, free_rng, flat_leaf, flat_lst, Pz.getSlot, Pz.setSlot, setSlots, Pz.bindIo, bindP_v, bindP_t, bindPs_nil, bindPs_cons, keyOf_str, keyOf_int, patVs, patsVs, wipeR_nil, wipeR_cons, 
  slotOk_none, slotOk_leaf, takeIt, takeOut, takeOuts, putIt, Pz.putIn, ioIt, ioOp, ioOf, restore, allBack, Pz.outsOf, O.map1, isNop, ioOps0, putIns0, Pz.isLst, Pz.isCon, stepsD, stepD, 
  onPath, isL, isC, mutT, extT, storeT_dct, sl_0, sl_1, sl_2, il_0, il_1, il_2, it_0, it_1, it_2, it_3, Option.isSome_some, List.isEmpty_nil, cmp_eqI, cmp_neI, cmp_ltI, cmp_gtI, cmp_leI, cmp_geI, bin_addI, bin_addT, bin_subI, bin_mulR, bin_mulL, bin_mulI, 
  bin_modI, bin_divL, Nat.reducePow, Int.reduceLT, Int.reduceEq, Int.reduceNe, Int.reduceLE, Int.reduceAdd, Int.reduceSub, Int.reduceMul, Int.reduceNeg, Int.reduceToNat, len_lst, len_tup, leaves_ints, 
  leaves_map, tup_lst, tInts_len, List.getElem?_cons_zero, List.getElem?_cons_succ, List.set_cons_zero, List.set_cons_succ, List.length_cons, List.zip_cons_cons, List.zip_nil_left, List.length_nil, List.length_map, List.map_cons, 
  List.map_nil, List.cons_append, List.nil_append, List.replicate, List.any_cons, List.any_nil, List.append_nil, Nat.sub_self, Nat.reduceSub, Nat.reduceAdd, Nat.reduceLeDiff, 
  Nat.reduceEqDiff, ↓reduceIte, ite_self, reduceCtorEq, ne_eq, not_false_eq_true, not_true_eq_false, true_and, and_true, false_and, and_false, true_or, or_true, false_or, or_false, 
  Bool.or_false, Bool.or_true, Bool.false_or, Bool.true_or, Bool.and_true, Bool.true_and, Bool.and_self, Bool.or_self, if_true, if_false, Pz.isTy, Pz.kdOf, isKd, szE, Nat.reduceLT, 
  Option.map_some, decide_true, decide_false, Bool.false_eq_true, List.mem_cons, List.not_mem_nil, Nat.lt_irrefl, Nat.le_refl, wOp_non, vompF_non, wOp_bl, vompF_bl, wOp_int, vompF_int, wOp_str, vompF_str, wOp_var, vompF_var, wOp_glob, vompF_glob, wOp_tup, vompF_tup, wOp_lst, vompF_lst, wOp_dct, vompF_dct, wOp_bin, vompF_bin, wOp_neg, vompF_neg, wOp_cmp, vompF_cmp, wOp_chain, vompF_chain, wOp_and, vompF_and, wOp_or, vompF_or, wOp_not, vompF_not, wOp_ite, vompF_ite, wOp_idx, vompF_idx, wOp_slice, vompF_slice, wOp_rev, vompF_rev, wOp_call, vompF_call, wOp_f1, vompF_f1, wOp_f2, vompF_f2, wOp_isi, vompF_isi, wOp_comp, vompF_comp, wOp_pop, vompF_pop, wOp_mt, vompF_mt, wOp_gidx, vompF_gidx, wOp_frz, vompF_frz, big62_of, int_int, abs_int, tInts_snoc, tStrs_snoc, tStrs_len, leaves_strs, Pz.isLst, onPath, permL, *])
/-! ### every row -/
noncomputable def evyR (φ : Nat → List T → FR) (c : Int) : FR := frOf [.leaf (.int c)] (evS φ [] b__law_every [some (.leaf (.int c)), none, none])
def allR (c : Nat) : List (List Int) := rowsB (List.replicate c .b)
theorem evy1 (φ : Nat → List T → FR) : isRows (evyR φ 1) (allR 1) = true := by kernel_rfl
theorem evy2 (φ : Nat → List T → FR) : isRows (evyR φ 2) (allR 2) = true := by kernel_rfl
theorem evy3 (φ : Nat → List T → FR) : isRows (evyR φ 3) (allR 3) = true := by kernel_rfl
theorem evy4 (φ : Nat → List T → FR) : isRows (evyR φ 4) (allR 4) = true := by kernel_rfl
theorem evy5 (φ : Nat → List T → FR) : isRows (evyR φ 5) (allR 5) = true := by kernel_rfl
theorem evy6 (φ : Nat → List T → FR) : isRows (evyR φ 6) (allR 6) = true := by kernel_rfl
theorem sp_every {n c : Nat} (h0 : 0 < c) (h1 : c ≤ 6) : run tbl.fn (n + 1) 8 [.leaf (.int (c : Int))] = .ret (.lst (((allR c).map rowD).map .leaf)) [none] := by
  have h : isRows (evyR (run tbl.fn n) (c : Int)) (allR c) = true := by
    have : c = 1 ∨ c = 2 ∨ c = 3 ∨ c = 4 ∨ c = 5 ∨ c = 6 := by omega
    rcases this with rfl | rfl | rfl | rfl | rfl | rfl
    · exact evy1 _
    · exact evy2 _
    · exact evy3 _
    · exact evy4 _
    · exact evy5 _
    · exact evy6 _
  rw [← isRows_eq h]
  rw [run_succ (d := ⟨1, 3, b__law_every⟩) rfl rfl]
  rfl
theorem allR_len {c : Nat} {r : List Int} (h : r ∈ allR c) : r.length = c := by
  have := row_len _ r h
  rwa [List.length_replicate] at this
/-! ### number, truth, row -/
theorem sp_number {n : Nat} {x y : Int} : run tbl.fn (n + 1) 9 [.leaf (.int x), .leaf (.int y)] = .ret (.leaf (.bool (decide (x = y)))) [none, none] := by
  refine wF_eq ?_
  rw [wF_run (np := 2) (nv := 2) (body := b__law_number) rfl rfl]
  unfold b__law_number
  walk_at "px*"
theorem eq_bool {x y : Bool} : cmpOp .eq (.leaf (.bool x)) (.leaf (.bool y)) = some (x == y) := by cases x <;> cases y <;> rfl
theorem sp_truth {n : Nat} {x y : Bool} : run tbl.fn (n + 1) 10 [.leaf (.bool x), .leaf (.bool y)] = .ret (.leaf (.bool (x == y))) [none, none] := by
  refine wF_eq ?_
  rw [wF_run (np := 2) (nv := 2) (body := b__law_truth) rfl rfl]
  unfold b__law_truth
  have e := @eq_bool
  walk_at "px*"
theorem idx_row {r : List Int} {j : Nat} (h : j < r.length) : idxT (.leaf (rowD r)) (.int (j : Int)) = some (.leaf (.int (r[j]))) := by
  refine idx_tupN ?_
  rw [List.getElem?_map, List.getElem?_eq_getElem h]; rfl
theorem sp_row {n : Nat} {r : List Int} (h : r.length ≤ 1000) : run tbl.fn (n + 2) 11 [.leaf (rowD r), .leaf (rowD r)] = .ret (.leaf (.bool true)) [none, none] := by
  refine wF_eq ?_
  rw [wF_run (np := 2) (nv := 3) (body := b__law_row) rfl rfl]
  unfold b__law_row
  have e1 := @len_row r
  have e2 : isTy (.leaf (rowD r)) .tuple = some true := rfl
  have e3 : kdOf (.leaf (rowD r)) = some .tuple := rfl
  have g := rng_at (i := (r.length : Int)) (by omega) (by omega)
  have hF := Fact.mk h
  clear h
  have q1 : rowD r = .tuple (r.map .int) := rfl
  rw [q1] at e1 ⊢
  clear q1 e2 e3
  walk_at "px*"
  refine compM_filt (fun _ => false) (fun j => T.leaf (.int ((j : Nat) : Int))) (xs := List.range (r.length : Int).toNat) (c := fun (j : Nat) => PyData.int (j : Int)) (fun j hj => ?_) ?_
  · have hj' : j < r.length := by rw [List.mem_range] at hj; omega
    have e4 : idxT (.leaf (.tuple (r.map .int))) (.int (j : Int)) = some (.leaf (.int r[j])) := idx_row hj'
    have e5 := sp_number (n := n) (x := r[j]) (y := r[j])
    clear hj
    walk_at "px*"
    exact ⟨rfl, rfl⟩
  · rw [List.filter_eq_nil_iff.2 (by simp)]
    walk_at "px*"
end L
namespace L
open PySem Pz PySem.W
theorem sp_members {n : Nat} {b : Box} (h0 : 0 < b.length) (h1 : b.length ≤ 6) : run tbl.fn (n + 1) 7 [.leaf (boxD b)] = .ret (.lst (((rowsB b).map rowD).map .leaf)) [none] := by
  have h := isRows_eq (mem_all (run tbl.fn n) h0 h1)
  rw [← h]
  rw [run_succ (d := ⟨1, 7, b__law_members⟩) rfl rfl]
  rfl
end L
namespace L
open PySem Pz PySem.W
local macro_rules | `(tactic| walk_at "px") => `(tactic| simp (implicitDefEqProofs := false) only [wE_non, wE_bl, wE_int, wE_str, wE_glob, vE_varR, q_kAt, q_kGo, wE_varM, wO_some, wO_none, mvK_leaf, mvK_scr, mvK_lst, mvK_dct, wE_bin, q_kBin, vBin2, q_kBin3, wE_neg, vNeg, q_kNeg2, asInt, 
  wE_cmp, q_kCmp, vCmp2, q_kCmp3, kB_at, wC_cmp, vTru, wC_var, wC_and, wC_call, wC_idx, wC_f1, wC_bin, wC_mt, wC_bl, is_nn, is_in, is_tn, is_sn, isnot_nn, isnot_in, isnot_tn, isnot_sn, truth_none, truth_bool, truth_int, truth_tup, truth_lst, Bool.not_true, Bool.not_false,  wC_or, wC_not, q_isAnd, q_isOr, q_isNot, wE_idx, q_kIdx, vIdx2, q_kIdx3, q_kIdx4, q_kIdx5, wE_tup, vTup, q_kTup2, wE_lst, q_kLst, 
  wEs_nil, wEs_non, wEs_bl, wEs_int, wEs_str, wEs_glob, wEs_tup, wEs_lst, wEs_dct, wEs_bin, wEs_neg, wEs_cmp, wEs_chain, wEs_and, wEs_or, wEs_not, wEs_ite, wEs_idx, wEs_slice, wEs_rev, wEs_call, wEs_call0, wEs_callK, wEs_f1, wEs_f2, wEs_isi, wEs_comp, wEs_pop, wEs_mt, wEs_gidx, wEs_frz, wEs_var, q_kVar, q_kVarT, wEsO_nil, wEsO_cons, q_kEsO, q_kEs, q_kEsT, wE_call0, q_kC0, wC_call0, wE_call, vCall, q_kCall2, wE_f1, vF1, wE_isi, wC_isi, vIsi, wE_ite, vIte, q_kIte2, wE_f2, q_kF2, vF22, wI_seq, vSeq, wI_rng1, wE_lrng, lrng_t, lrng_l, wEs_lrng, wI_rng2, kR20_at, kR21_at, wI_rng3, kR30_at, kR31_at, big_m1, vRng1, q_kRng2, wI_enum, vEnum, 
  q_kEnum2, wI_zip, q_kZip, vZip2, q_kZip3, q_kZip4, q_kZip5, q_kZip6, wE_comp, vComp, q_kComp2, q_kCompE, vompF_nop, q_kBd, q_kBc, q_kEnd2, vEnd, vYes, wE_chain, wC_chain, q_kCh, q_kCh2, vCh3, q_kChB, wE_dct, 
  q_kDct, wE_and, vVAnd, q_kVAnd3, q_kVAnd4, q_kVAnd2, wE_or, vVOr, q_kVOr3, q_kVOr4, wE_not, vVNot, q_kVNot2, wOp_nop, vOpt, q_kOpt2, wE_slice, q_kSl, q_kSl2, vSl3, q_kSl4, wE_rev, vRev, q_kRev2, wE_pop, 
  vPop, q_kPop2, q_kPop3, q_kPop4, wE_callK, q_kCallK, vCallK2, q_kCK2, q_kCK3, q_kCK4, q_kCK5, wF_ret, putBack, wQ_next, wQ_ret, cast0, kThn_next, kThn_ret, kThn_brk, kThn_cont, wT_nil, wT_retN, wT_brk, wT_cont, 
  wT_pass, wT_set, vSet, wT_asg, vAsg, q_kAsg2, wT_par, vPar, wT_ret, q_kRet, wT_expr, q_kExpr, wT_ite, q_kIf, wT_mut, vMut, q_kMu2, q_kMu3, q_kMu4, wT_ext, vExt, q_kExt2, kExt.seqL, wT_store, 
  q_kStore, vStore2, q_kSt3, q_kSt4, q_kSt5, vorF_at, q_kPut, wT_for, q_kFor, kFr, kTurn_next, kTurn_cont, kTurn_brk, kTurn_ret, kJ_next, kJ_ret, Pz.opnd, Pz.pureE, Pz.pureEs, Pz.stands, itemsS_tup, itemsS_list, itemsS_scr, itemsS_str, itemsS_lst, items_tup, items_list, items_scr, items_lst, Pz.leafOf, 
  leaves, isLeaf_leaf, isLeaf_lst, isLeaf_dct, isLeaf_scr, isLeaf_rng, free_leaf, free_lst, free_dct, free_scr, free_rng, flat_leaf, flat_lst, Pz.getSlot, Pz.setSlot, setSlots, Pz.bindIo, bindP_v, bindP_t, bindPs_nil, bindPs_cons, keyOf_str, keyOf_int, patVs, patsVs, wipeR_nil, wipeR_cons, 
  slotOk_none, slotOk_leaf, takeIt, takeOut, takeOuts, putIt, Pz.putIn, ioIt, ioOp, ioOf, restore, allBack, Pz.outsOf, O.map1, isNop, ioOps0, putIns0, Pz.isLst, Pz.isCon, stepsD, stepD, 
  onPath, isL, isC, mutT, extT, storeT_dct, sl_0, sl_1, sl_2, il_0, il_1, il_2, it_0, it_1, it_2, it_3, Option.isSome_some, List.isEmpty_nil, cmp_eqI, cmp_neI, cmp_ltI, cmp_gtI, cmp_leI, cmp_geI, bin_addI, bin_addT, bin_subI, bin_mulR, bin_mulL, bin_mulI, 
  bin_modI, bin_divL, Nat.reducePow, Int.reduceLT, Int.reduceEq, Int.reduceNe, Int.reduceLE, Int.reduceAdd, Int.reduceSub, Int.reduceMul, Int.reduceNeg, Int.reduceToNat, len_lst, len_tup, leaves_ints, 
  leaves_map, tup_lst, tInts_len, List.getElem?_cons_zero, List.getElem?_cons_succ, List.set_cons_zero, List.set_cons_succ, List.length_cons, List.zip_cons_cons, List.zip_nil_left, List.length_nil, List.length_map, List.map_cons, 
  List.map_nil, List.cons_append, List.nil_append, List.replicate, List.any_cons, List.any_nil, List.append_nil, Nat.sub_self, Nat.reduceSub, Nat.reduceAdd, Nat.reduceLeDiff, 
  Nat.reduceEqDiff, ↓reduceIte, ite_self, reduceCtorEq, ne_eq, not_false_eq_true, not_true_eq_false, true_and, and_true, false_and, and_false, true_or, or_true, false_or, or_false, 
  Bool.or_false, Bool.or_true, Bool.false_or, Bool.true_or, Bool.and_true, Bool.true_and, Bool.and_self, Bool.or_self, if_true, if_false, Pz.isTy, Pz.kdOf, isKd, szE, Nat.reduceLT, 
  Option.map_some, decide_true, decide_false, Bool.false_eq_true, List.mem_cons, List.not_mem_nil, Nat.lt_irrefl, Nat.le_refl, wOp_non, vompF_non, wOp_bl, vompF_bl, wOp_int, vompF_int, wOp_str, vompF_str, wOp_var, vompF_var, wOp_glob, vompF_glob, wOp_tup, vompF_tup, wOp_lst, vompF_lst, wOp_dct, vompF_dct, wOp_bin, vompF_bin, wOp_neg, vompF_neg, wOp_cmp, vompF_cmp, wOp_chain, vompF_chain, wOp_and, vompF_and, wOp_or, vompF_or, wOp_not, vompF_not, wOp_ite, vompF_ite, wOp_idx, vompF_idx, wOp_slice, vompF_slice, wOp_rev, vompF_rev, wOp_call, vompF_call, wOp_f1, vompF_f1, wOp_f2, vompF_f2, wOp_isi, vompF_isi, wOp_comp, vompF_comp, wOp_pop, vompF_pop, wOp_mt, vompF_mt, wOp_gidx, vompF_gidx, wOp_frz, vompF_frz, big62_of, int_int, abs_int, tInts_snoc, tStrs_snoc, tStrs_len, leaves_strs, Pz.isLst, onPath, permL])
local macro_rules | `(tactic| walk_at "px*") => `(tactic| simp (implicitDefEqProofs := false) only [wE_non, wE_bl, wE_int, wE_str, wE_glob, vE_varR, q_kAt, q_kGo, wE_varM, wO_some, wO_none, mvK_leaf, mvK_scr, mvK_lst, mvK_dct, wE_bin, q_kBin, vBin2, q_kBin3, wE_neg, vNeg, q_kNeg2, asInt, 
  wE_cmp, q_kCmp, vCmp2, q_kCmp3, kB_at, wC_cmp, vTru, wC_var, wC_and, wC_call, wC_idx, wC_f1, wC_bin, wC_mt, wC_bl, is_nn, is_in, is_tn, is_sn, isnot_nn, isnot_in, isnot_tn, isnot_sn, truth_none, truth_bool, truth_int, truth_tup, truth_lst, Bool.not_true, Bool.not_false,  wC_or, wC_not, q_isAnd, q_isOr, q_isNot, wE_idx, q_kIdx, vIdx2, q_kIdx3, q_kIdx4, q_kIdx5, wE_tup, vTup, q_kTup2, wE_lst, q_kLst, 
  wEs_nil, wEs_non, wEs_bl, wEs_int, wEs_str, wEs_glob, wEs_tup, wEs_lst, wEs_dct, wEs_bin, wEs_neg, wEs_cmp, wEs_chain, wEs_and, wEs_or, wEs_not, wEs_ite, wEs_idx, wEs_slice, wEs_rev, wEs_call, wEs_call0, wEs_callK, wEs_f1, wEs_f2, wEs_isi, wEs_comp, wEs_pop, wEs_mt, wEs_gidx, wEs_frz, wEs_var, q_kVar, q_kVarT, wEsO_nil, wEsO_cons, q_kEsO, q_kEs, q_kEsT, wE_call0, q_kC0, wC_call0, wE_call, vCall, q_kCall2, wE_f1, vF1, wE_isi, wC_isi, vIsi, wE_ite, vIte, q_kIte2, wE_f2, q_kF2, vF22, wI_seq, vSeq, wI_rng1, wE_lrng, lrng_t, lrng_l, wEs_lrng, wI_rng2, kR20_at, kR21_at, wI_rng3, kR30_at, kR31_at, big_m1, vRng1, q_kRng2, wI_enum, vEnum, 
  q_kEnum2, wI_zip, q_kZip, vZip2, q_kZip3, q_kZip4, q_kZip5, q_kZip6, wE_comp, vComp, q_kComp2, q_kCompE, vompF_nop, q_kBd, q_kBc, q_kEnd2, vEnd, vYes, wE_chain, wC_chain, q_kCh, q_kCh2, vCh3, q_kChB, wE_dct, 
  q_kDct, wE_and, vVAnd, q_kVAnd3, q_kVAnd4, q_kVAnd2, wE_or, vVOr, q_kVOr3, q_kVOr4, wE_not, vVNot, q_kVNot2, wOp_nop, vOpt, q_kOpt2, wE_slice, q_kSl, q_kSl2, vSl3, q_kSl4, wE_rev, vRev, q_kRev2, wE_pop, 
  vPop, q_kPop2, q_kPop3, q_kPop4, wE_callK, q_kCallK, vCallK2, q_kCK2, q_kCK3, q_kCK4, q_kCK5, wF_ret, putBack, wQ_next, wQ_ret, cast0, kThn_next, kThn_ret, kThn_brk, kThn_cont, wT_nil, wT_retN, wT_brk, wT_cont, 
  wT_pass, wT_set, vSet, wT_asg, vAsg, q_kAsg2, wT_par, vPar, wT_ret, q_kRet, wT_expr, q_kExpr, wT_ite, q_kIf, wT_mut, vMut, q_kMu2, q_kMu3, q_kMu4, wT_ext, vExt, q_kExt2, kExt.seqL, wT_store, 
  q_kStore, vStore2, q_kSt3, q_kSt4, q_kSt5, vorF_at, q_kPut, wT_for, q_kFor, kFr, kTurn_next, kTurn_cont, kTurn_brk, kTurn_ret, kJ_next, kJ_ret, Pz.opnd, Pz.pureE, Pz.pureEs, Pz.stands, itemsS_tup, itemsS_list, itemsS_scr, itemsS_str, itemsS_lst, items_tup, items_list, items_scr, items_lst, Pz.leafOf, 
  leaves, isLeaf_leaf, isLeaf_lst, isLeaf_dct, isLeaf_scr, isLeaf_rng, free_leaf, free_lst, free_dct, free_scr, free_rng, flat_leaf, flat_lst, Pz.getSlot, Pz.setSlot, setSlots, Pz.bindIo, bindP_v, bindP_t, bindPs_nil, bindPs_cons, keyOf_str, keyOf_int, patVs, patsVs, wipeR_nil, wipeR_cons, 
  slotOk_none, slotOk_leaf, takeIt, takeOut, takeOuts, putIt, Pz.putIn, ioIt, ioOp, ioOf, restore, allBack, Pz.outsOf, O.map1, isNop, ioOps0, putIns0, Pz.isLst, Pz.isCon, stepsD, stepD, 
  onPath, isL, isC, mutT, extT, storeT_dct, sl_0, sl_1, sl_2, il_0, il_1, il_2, it_0, it_1, it_2, it_3, Option.isSome_some, List.isEmpty_nil, cmp_eqI, cmp_neI, cmp_ltI, cmp_gtI, cmp_leI, cmp_geI, bin_addI, bin_addT, bin_subI, bin_mulR, bin_mulL, bin_mulI, 
  bin_modI, bin_divL, Nat.reducePow, Int.reduceLT, Int.reduceEq, Int.reduceNe, Int.reduceLE, Int.reduceAdd, Int.reduceSub, Int.reduceMul, Int.reduceNeg, Int.reduceToNat, len_lst, len_tup, leaves_ints, 
  leaves_map, tup_lst, tInts_len, List.getElem?_cons_zero, List.getElem?_cons_succ, List.set_cons_zero, List.set_cons_succ, List.length_cons, List.zip_cons_cons, List.zip_nil_left, List.length_nil, List.length_map, List.map_cons, 
  List.map_nil, List.cons_append, List.nil_append, List.replicate, List.any_cons, List.any_nil, List.append_nil, Nat.sub_self, Nat.reduceSub, Nat.reduceAdd, Nat.reduceLeDiff, 
  Nat.reduceEqDiff, ↓reduceIte, ite_self, reduceCtorEq, ne_eq, not_false_eq_true, not_true_eq_false, true_and, and_true, false_and, and_false, true_or, or_true, false_or, or_false, 
  Bool.or_false, Bool.or_true, Bool.false_or, Bool.true_or, Bool.and_true, Bool.true_and, Bool.and_self, Bool.or_self, if_true, if_false, Pz.isTy, Pz.kdOf, isKd, szE, Nat.reduceLT, 
  Option.map_some, decide_true, decide_false, Bool.false_eq_true, List.mem_cons, List.not_mem_nil, Nat.lt_irrefl, Nat.le_refl, wOp_non, vompF_non, wOp_bl, vompF_bl, wOp_int, vompF_int, wOp_str, vompF_str, wOp_var, vompF_var, wOp_glob, vompF_glob, wOp_tup, vompF_tup, wOp_lst, vompF_lst, wOp_dct, vompF_dct, wOp_bin, vompF_bin, wOp_neg, vompF_neg, wOp_cmp, vompF_cmp, wOp_chain, vompF_chain, wOp_and, vompF_and, wOp_or, vompF_or, wOp_not, vompF_not, wOp_ite, vompF_ite, wOp_idx, vompF_idx, wOp_slice, vompF_slice, wOp_rev, vompF_rev, wOp_call, vompF_call, wOp_f1, vompF_f1, wOp_f2, vompF_f2, wOp_isi, vompF_isi, wOp_comp, vompF_comp, wOp_pop, vompF_pop, wOp_mt, vompF_mt, wOp_gidx, vompF_gidx, wOp_frz, vompF_frz, big62_of, int_int, abs_int, tInts_snoc, tStrs_snoc, tStrs_len, leaves_strs, Pz.isLst, onPath, permL, *])
def rowsT (rs : List (List Int)) : T := .lst ((rs.map rowD).map .leaf)
theorem rows0 (b : Box) : idxT (.lst (((rowsB b).map rowD).map .leaf)) (.int 0) = some (.leaf (rowD (leastB b))) := by
  obtain ⟨s, e⟩ := rows_head b
  rw [e]
  exact il_0
theorem len_rows {rs : List (List Int)} : fun1 .len (.lst ((rs.map rowD).map .leaf)) = some (.leaf (.int (rs.length : Int))) := by
  rw [len_lst, List.length_map, List.length_map]
theorem sp_asked {n : Nat} {b : Box} (h0 : 0 < b.length) (h1 : b.length ≤ 6) : run tbl.fn (n + 3) 12 [.leaf (boxD b)] = .ret (.leaf (.int (prodB b : Int))) [none] := by
  refine wF_eq ?_
  rw [wF_run (np := 1) (nv := 3) (body := b__law_asked) rfl rfl]
  unfold b__law_asked
  have e1 := sp_members (n := n + 1) h0 h1
  have e2 := sp_size (n := n + 1) h1
  have e3 := sp_least (n := n + 1) h1
  have e4 := @sp_number (n + 1) (prodB b : Int) (prodB b : Int)
  have e5 := sp_row (n := n) (r := leastB b) (by rw [least_len]; omega)
  have e6 := rows0 b
  have e7 := @len_rows (rowsB b)
  rw [rowsB_len] at e7
  have e8 := @len_box b
  have e9 := sp_every (n := n + 1) h0 h1
  have hx := fun r => sp_in (n := n + 1) (b := b) (r := r) h1
  have hm := fun r => mem_rows b r
  have hi := fun r => @in_rows r (rowsB b)
  have hx := Fact.mk hx
  have hm := Fact.mk hm
  have hi := Fact.mk hi
  have h1F := Fact.mk h1
  rename_i hx' hm' hi'
  clear hx' hm' hi' h1 h0
  generalize ((rowsB b).map rowD).map T.leaf = RS at *
  generalize hAS : allR b.length = AS at *
  have hA : ∀ r ∈ AS, r.length = b.length := fun r hr => allR_len (by rw [hAS]; exact hr)
  have hA := Fact.mk hA
  rename_i hA'
  clear hA' hAS
  walk_at "px*"
  refine forM_inv (fun j ρ => ∃ c2, slotOk (some c2) = true ∧ ρ = [some (.leaf (boxD b)), some (.lst RS), c2]) ⟨none, rfl, rfl⟩ ?_ ?_
  · intro j d ρ hd hI
    obtain ⟨c2, hc2, rfl⟩ := hI
    rw [List.getElem?_map] at hd
    cases hj : AS[j]? with
    | none => rw [hj] at hd; cases hd
    | some r =>
      rw [hj] at hd
      simp only [Option.map_some, Option.some.injEq] at hd
      subst hd
      have hl := hA.out r (List.mem_of_getElem? hj)
      have q1 := hx.out r (by rw [hl]; exact h1F.out)
      have q2 := hi.out r
      have q3 := hm.out r hl
      rw [q3] at q2
      have q4 := @sp_truth (n + 1) (inB b r) (inB b r)
      rw [beq_self_eq_true] at q4
      clear hl hj q3 e1 e2 e3 e4 e5 e6 e9
      walk_at "px*"
      exact ⟨_, rfl, rfl⟩
  · intro ρ hI
    obtain ⟨c2, hc2, rfl⟩ := hI
    walk_at "px*"
end L
namespace L
open PySem Pz PySem.W
local macro_rules | `(tactic| walk_at "px") => `(tactic| simp (implicitDefEqProofs := false) only [wE_non, wE_bl, wE_int, wE_str, wE_glob, vE_varR, q_kAt, q_kGo, wE_varM, wO_some, wO_none, mvK_leaf, mvK_scr, mvK_lst, mvK_dct, wE_bin, q_kBin, vBin2, q_kBin3, wE_neg, vNeg, q_kNeg2, asInt, 
  wE_cmp, q_kCmp, vCmp2, q_kCmp3, kB_at, wC_cmp, vTru, wC_var, wC_and, wC_call, wC_idx, wC_f1, wC_bin, wC_mt, wC_bl, is_nn, is_in, is_tn, is_sn, isnot_nn, isnot_in, isnot_tn, isnot_sn, truth_none, truth_bool, truth_int, truth_tup, truth_lst, Bool.not_true, Bool.not_false,  wC_or, wC_not, q_isAnd, q_isOr, q_isNot, wE_idx, q_kIdx, vIdx2, q_kIdx3, q_kIdx4, q_kIdx5, wE_tup, vTup, q_kTup2, wE_lst, q_kLst, 
  wEs_nil, wEs_non, wEs_bl, wEs_int, wEs_str, wEs_glob, wEs_tup, wEs_lst, wEs_dct, wEs_bin, wEs_neg, wEs_cmp, wEs_chain, wEs_and, wEs_or, wEs_not, wEs_ite, wEs_idx, wEs_slice, wEs_rev, wEs_call, wEs_call0, wEs_callK, wEs_f1, wEs_f2, wEs_isi, wEs_comp, wEs_pop, wEs_mt, wEs_gidx, wEs_frz, wEs_var, q_kVar, q_kVarT, wEsO_nil, wEsO_cons, q_kEsO, q_kEs, q_kEsT, wE_call0, q_kC0, wC_call0, wE_call, vCall, q_kCall2, wE_f1, vF1, wE_isi, wC_isi, vIsi, wE_ite, vIte, q_kIte2, wE_f2, q_kF2, vF22, wI_seq, vSeq, wI_rng1, wE_lrng, lrng_t, lrng_l, wEs_lrng, wI_rng2, kR20_at, kR21_at, wI_rng3, kR30_at, kR31_at, big_m1, vRng1, q_kRng2, wI_enum, vEnum, 
  q_kEnum2, wI_zip, q_kZip, vZip2, q_kZip3, q_kZip4, q_kZip5, q_kZip6, wE_comp, vComp, q_kComp2, q_kCompE, vompF_nop, q_kBd, q_kBc, q_kEnd2, vEnd, vYes, wE_chain, wC_chain, q_kCh, q_kCh2, vCh3, q_kChB, wE_dct, 
  q_kDct, wE_and, vVAnd, q_kVAnd3, q_kVAnd4, q_kVAnd2, wE_or, vVOr, q_kVOr3, q_kVOr4, wE_not, vVNot, q_kVNot2, wOp_nop, vOpt, q_kOpt2, wE_slice, q_kSl, q_kSl2, vSl3, q_kSl4, wE_rev, vRev, q_kRev2, wE_pop, 
  vPop, q_kPop2, q_kPop3, q_kPop4, wE_callK, q_kCallK, vCallK2, q_kCK2, q_kCK3, q_kCK4, q_kCK5, wF_ret, putBack, wQ_next, wQ_ret, cast0, kThn_next, kThn_ret, kThn_brk, kThn_cont, wT_nil, wT_retN, wT_brk, wT_cont, 
  wT_pass, wT_set, vSet, wT_asg, vAsg, q_kAsg2, wT_par, vPar, wT_ret, q_kRet, wT_expr, q_kExpr, wT_ite, q_kIf, wT_mut, vMut, q_kMu2, q_kMu3, q_kMu4, wT_ext, vExt, q_kExt2, kExt.seqL, wT_store, 
  q_kStore, vStore2, q_kSt3, q_kSt4, q_kSt5, vorF_at, q_kPut, wT_for, q_kFor, kFr, kTurn_next, kTurn_cont, kTurn_brk, kTurn_ret, kJ_next, kJ_ret, Pz.opnd, Pz.pureE, Pz.pureEs, Pz.stands, itemsS_tup, itemsS_list, itemsS_scr, itemsS_str, itemsS_lst, items_tup, items_list, items_scr, items_lst, Pz.leafOf, 
  leaves, isLeaf_leaf, isLeaf_lst, isLeaf_dct, isLeaf_scr, isLeaf_rng, free_leaf, free_lst, free_dct, free_scr, free_rng, flat_leaf, flat_lst, Pz.getSlot, Pz.setSlot, setSlots, Pz.bindIo, bindP_v, bindP_t, bindPs_nil, bindPs_cons, keyOf_str, keyOf_int, patVs, patsVs, wipeR_nil, wipeR_cons, 
  slotOk_none, slotOk_leaf, takeIt, takeOut, takeOuts, putIt, Pz.putIn, ioIt, ioOp, ioOf, restore, allBack, Pz.outsOf, O.map1, isNop, ioOps0, putIns0, Pz.isLst, Pz.isCon, stepsD, stepD, 
  onPath, isL, isC, mutT, extT, storeT_dct, sl_0, sl_1, sl_2, il_0, il_1, il_2, it_0, it_1, it_2, it_3, Option.isSome_some, List.isEmpty_nil, cmp_eqI, cmp_neI, cmp_ltI, cmp_gtI, cmp_leI, cmp_geI, bin_addI, bin_addT, bin_subI, bin_mulR, bin_mulL, bin_mulI, 
  bin_modI, bin_divL, Nat.reducePow, Int.reduceLT, Int.reduceEq, Int.reduceNe, Int.reduceLE, Int.reduceAdd, Int.reduceSub, Int.reduceMul, Int.reduceNeg, Int.reduceToNat, len_lst, len_tup, leaves_ints, 
  leaves_map, tup_lst, tInts_len, List.getElem?_cons_zero, List.getElem?_cons_succ, List.set_cons_zero, List.set_cons_succ, List.length_cons, List.zip_cons_cons, List.zip_nil_left, List.length_nil, List.length_map, List.map_cons, 
  List.map_nil, List.cons_append, List.nil_append, List.replicate, List.any_cons, List.any_nil, List.append_nil, Nat.sub_self, Nat.reduceSub, Nat.reduceAdd, Nat.reduceLeDiff, 
  Nat.reduceEqDiff, ↓reduceIte, ite_self, reduceCtorEq, ne_eq, not_false_eq_true, not_true_eq_false, true_and, and_true, false_and, and_false, true_or, or_true, false_or, or_false, 
  Bool.or_false, Bool.or_true, Bool.false_or, Bool.true_or, Bool.and_true, Bool.true_and, Bool.and_self, Bool.or_self, if_true, if_false, Pz.isTy, Pz.kdOf, isKd, szE, Nat.reduceLT, 
  Option.map_some, decide_true, decide_false, Bool.false_eq_true, List.mem_cons, List.not_mem_nil, Nat.lt_irrefl, Nat.le_refl, wOp_non, vompF_non, wOp_bl, vompF_bl, wOp_int, vompF_int, wOp_str, vompF_str, wOp_var, vompF_var, wOp_glob, vompF_glob, wOp_tup, vompF_tup, wOp_lst, vompF_lst, wOp_dct, vompF_dct, wOp_bin, vompF_bin, wOp_neg, vompF_neg, wOp_cmp, vompF_cmp, wOp_chain, vompF_chain, wOp_and, vompF_and, wOp_or, vompF_or, wOp_not, vompF_not, wOp_ite, vompF_ite, wOp_idx, vompF_idx, wOp_slice, vompF_slice, wOp_rev, vompF_rev, wOp_call, vompF_call, wOp_f1, vompF_f1, wOp_f2, vompF_f2, wOp_isi, vompF_isi, wOp_comp, vompF_comp, wOp_pop, vompF_pop, wOp_mt, vompF_mt, wOp_gidx, vompF_gidx, wOp_frz, vompF_frz, big62_of, int_int, abs_int, tInts_snoc, tStrs_snoc, tStrs_len, leaves_strs, Pz.isLst, onPath, permL])
local macro_rules | `(tactic| walk_at "px*") => `(tactic| simp (implicitDefEqProofs := false) only [wE_non, wE_bl, wE_int, wE_str, wE_glob, vE_varR, q_kAt, q_kGo, wE_varM, wO_some, wO_none, mvK_leaf, mvK_scr, mvK_lst, mvK_dct, wE_bin, q_kBin, vBin2, q_kBin3, wE_neg, vNeg, q_kNeg2, asInt, 
  wE_cmp, q_kCmp, vCmp2, q_kCmp3, kB_at, wC_cmp, vTru, wC_var, wC_and, wC_call, wC_idx, wC_f1, wC_bin, wC_mt, wC_bl, is_nn, is_in, is_tn, is_sn, isnot_nn, isnot_in, isnot_tn, isnot_sn, truth_none, truth_bool, truth_int, truth_tup, truth_lst, Bool.not_true, Bool.not_false,  wC_or, wC_not, q_isAnd, q_isOr, q_isNot, wE_idx, q_kIdx, vIdx2, q_kIdx3, q_kIdx4, q_kIdx5, wE_tup, vTup, q_kTup2, wE_lst, q_kLst, 
  wEs_nil, wEs_non, wEs_bl, wEs_int, wEs_str, wEs_glob, wEs_tup, wEs_lst, wEs_dct, wEs_bin, wEs_neg, wEs_cmp, wEs_chain, wEs_and, wEs_or, wEs_not, wEs_ite, wEs_idx, wEs_slice, wEs_rev, wEs_call, wEs_call0, wEs_callK, wEs_f1, wEs_f2, wEs_isi, wEs_comp, wEs_pop, wEs_mt, wEs_gidx, wEs_frz, wEs_var, q_kVar, q_kVarT, wEsO_nil, wEsO_cons, q_kEsO, q_kEs, q_kEsT, wE_call0, q_kC0, wC_call0, wE_call, vCall, q_kCall2, wE_f1, vF1, wE_isi, wC_isi, vIsi, wE_ite, vIte, q_kIte2, wE_f2, q_kF2, vF22, wI_seq, vSeq, wI_rng1, wE_lrng, lrng_t, lrng_l, wEs_lrng, wI_rng2, kR20_at, kR21_at, wI_rng3, kR30_at, kR31_at, big_m1, vRng1, q_kRng2, wI_enum, vEnum, 
  q_kEnum2, wI_zip, q_kZip, vZip2, q_kZip3, q_kZip4, q_kZip5, q_kZip6, wE_comp, vComp, q_kComp2, q_kCompE, vompF_nop, q_kBd, q_kBc, q_kEnd2, vEnd, vYes, wE_chain, wC_chain, q_kCh, q_kCh2, vCh3, q_kChB, wE_dct, 
  q_kDct, wE_and, vVAnd, q_kVAnd3, q_kVAnd4, q_kVAnd2, wE_or, vVOr, q_kVOr3, q_kVOr4, wE_not, vVNot, q_kVNot2, wOp_nop, vOpt, q_kOpt2, wE_slice, q_kSl, q_kSl2, vSl3, q_kSl4, wE_rev, vRev, q_kRev2, wE_pop, 
  vPop, q_kPop2, q_kPop3, q_kPop4, wE_callK, q_kCallK, vCallK2, q_kCK2, q_kCK3, q_kCK4, q_kCK5, wF_ret, putBack, wQ_next, wQ_ret, cast0, kThn_next, kThn_ret, kThn_brk, kThn_cont, wT_nil, wT_retN, wT_brk, wT_cont, 
  wT_pass, wT_set, vSet, wT_asg, vAsg, q_kAsg2, wT_par, vPar, wT_ret, q_kRet, wT_expr, q_kExpr, wT_ite, q_kIf, wT_mut, vMut, q_kMu2, q_kMu3, q_kMu4, wT_ext, vExt, q_kExt2, kExt.seqL, wT_store, 
  q_kStore, vStore2, q_kSt3, q_kSt4, q_kSt5, vorF_at, q_kPut, wT_for, q_kFor, kFr, kTurn_next, kTurn_cont, kTurn_brk, kTurn_ret, kJ_next, kJ_ret, Pz.opnd, Pz.pureE, Pz.pureEs, Pz.stands, itemsS_tup, itemsS_list, itemsS_scr, itemsS_str, itemsS_lst, items_tup, items_list, items_scr, items_lst, Pz.leafOf, 
  leaves, isLeaf_leaf, isLeaf_lst, isLeaf_dct, isLeaf_scr, isLeaf_rng, free_leaf, free_lst, free_dct, free_scr, free_rng, flat_leaf, flat_lst, Pz.getSlot, Pz.setSlot, setSlots, Pz.bindIo, bindP_v, bindP_t, bindPs_nil, bindPs_cons, keyOf_str, keyOf_int, patVs, patsVs, wipeR_nil, wipeR_cons, 
  slotOk_none, slotOk_leaf, takeIt, takeOut, takeOuts, putIt, Pz.putIn, ioIt, ioOp, ioOf, restore, allBack, Pz.outsOf, O.map1, isNop, ioOps0, putIns0, Pz.isLst, Pz.isCon, stepsD, stepD, 
  onPath, isL, isC, mutT, extT, storeT_dct, sl_0, sl_1, sl_2, il_0, il_1, il_2, it_0, it_1, it_2, it_3, Option.isSome_some, List.isEmpty_nil, cmp_eqI, cmp_neI, cmp_ltI, cmp_gtI, cmp_leI, cmp_geI, bin_addI, bin_addT, bin_subI, bin_mulR, bin_mulL, bin_mulI, 
  bin_modI, bin_divL, Nat.reducePow, Int.reduceLT, Int.reduceEq, Int.reduceNe, Int.reduceLE, Int.reduceAdd, Int.reduceSub, Int.reduceMul, Int.reduceNeg, Int.reduceToNat, len_lst, len_tup, leaves_ints, 
  leaves_map, tup_lst, tInts_len, List.getElem?_cons_zero, List.getElem?_cons_succ, List.set_cons_zero, List.set_cons_succ, List.length_cons, List.zip_cons_cons, List.zip_nil_left, List.length_nil, List.length_map, List.map_cons, 
  List.map_nil, List.cons_append, List.nil_append, List.replicate, List.any_cons, List.any_nil, List.append_nil, Nat.sub_self, Nat.reduceSub, Nat.reduceAdd, Nat.reduceLeDiff, 
  Nat.reduceEqDiff, ↓reduceIte, ite_self, reduceCtorEq, ne_eq, not_false_eq_true, not_true_eq_false, true_and, and_true, false_and, and_false, true_or, or_true, false_or, or_false, 
  Bool.or_false, Bool.or_true, Bool.false_or, Bool.true_or, Bool.and_true, Bool.true_and, Bool.and_self, Bool.or_self, if_true, if_false, Pz.isTy, Pz.kdOf, isKd, szE, Nat.reduceLT, 
  Option.map_some, decide_true, decide_false, Bool.false_eq_true, List.mem_cons, List.not_mem_nil, Nat.lt_irrefl, Nat.le_refl, wOp_non, vompF_non, wOp_bl, vompF_bl, wOp_int, vompF_int, wOp_str, vompF_str, wOp_var, vompF_var, wOp_glob, vompF_glob, wOp_tup, vompF_tup, wOp_lst, vompF_lst, wOp_dct, vompF_dct, wOp_bin, vompF_bin, wOp_neg, vompF_neg, wOp_cmp, vompF_cmp, wOp_chain, vompF_chain, wOp_and, vompF_and, wOp_or, vompF_or, wOp_not, vompF_not, wOp_ite, vompF_ite, wOp_idx, vompF_idx, wOp_slice, vompF_slice, wOp_rev, vompF_rev, wOp_call, vompF_call, wOp_f1, vompF_f1, wOp_f2, vompF_f2, wOp_isi, vompF_isi, wOp_comp, vompF_comp, wOp_pop, vompF_pop, wOp_mt, vompF_mt, wOp_gidx, vompF_gidx, wOp_frz, vompF_frz, big62_of, int_int, abs_int, tInts_snoc, tStrs_snoc, tStrs_len, leaves_strs, Pz.isLst, onPath, permL, *])
/-! ### a lamp's values put otherwise -/
def put (b : Box) (a : Nat) (p : Part) : Box := b.take a ++ [p] ++ b.drop (a + 1)
theorem put_len {b : Box} {a : Nat} {p : Part} (h : a < b.length) : (put b a p).length = b.length := by
  unfold put
  rw [List.length_append, List.length_append, List.length_take, List.length_drop, List.length_cons, List.length_nil]
  omega
theorem box_to {b : Box} {a : Nat} (h : a ≤ b.length) : sliceT (.leaf (boxD b)) none (some (a : Int)) = some (.leaf (.tuple ((b.take a).map partD))) := by
  unfold boxD
  rw [slice_to (by omega) (by rw [List.length_map]; omega), Int.toNat_natCast, List.map_take]
theorem box_from {b : Box} {a : Nat} (h : a + 1 ≤ b.length) : sliceT (.leaf (boxD b)) (some ((a : Int) + 1)) none = some (.leaf (.tuple ((b.drop (a + 1)).map partD))) := by
  unfold boxD
  rw [slice_from (by omega) (by rw [List.length_map]; omega), show ((a : Int) + 1).toNat = a + 1 by omega, List.map_drop]
theorem put_e {b : Box} {a : Nat} {p : Part} (h : b.length ≤ 1000) :
    binOp .add (.leaf (.tuple ((b.take a).map partD))) (.leaf (.tuple [partD p])) = some (.leaf (.tuple ((b.take a).map partD ++ [partD p]))) ∧
    binOp .add (.leaf (.tuple ((b.take a).map partD ++ [partD p]))) (.leaf (.tuple ((b.drop (a + 1)).map partD))) = some (.leaf (boxD (put b a p))) := by
  refine ⟨bin_addT ?_, ?_⟩
  · rw [List.length_map, List.length_take, List.length_cons, List.length_nil]; omega
  · rw [bin_addT (by rw [List.length_map, List.length_append, List.length_map, List.length_take, List.length_drop, List.length_cons, List.length_nil]; omega)]
    unfold boxD put
    rw [List.map_append, List.map_append]; rfl
theorem split_at {b : Box} {a : Nat} (h : a < b.length) : b = b.take a ++ [b[a]] ++ b.drop (a + 1) := by
  rw [List.append_assoc, List.singleton_append, ← List.drop_eq_getElem_cons h, List.take_append_drop]
theorem prod_put {b : Box} {a : Nat} (h : a < b.length) : ∃ q, 1 ≤ q ∧ prodB b = (b[a]).vs.length * q ∧ ∀ p, prodB (put b a p) = p.vs.length * q := by
  refine ⟨prodB (b.take a) * prodB (b.drop (a + 1)), ?_, ?_, fun p => ?_⟩
  · exact Nat.mul_pos (prodB_pos _) (prodB_pos _)
  · have e := congrArg prodB (split_at h)
    rw [prodB_app, prodB_app] at e
    rw [e]
    show prodB (b.take a) * ((b[a]).vs.length * 1) * prodB (b.drop (a + 1)) = _
    rw [Nat.mul_one, Nat.mul_comm (prodB _) (List.length _), Nat.mul_assoc]
  · unfold put
    rw [prodB_app, prodB_app]
    show prodB (b.take a) * (p.vs.length * 1) * prodB (b.drop (a + 1)) = _
    rw [Nat.mul_one, Nat.mul_comm (prodB _) (List.length _), Nat.mul_assoc]
theorem inB_put : ∀ {b : Box} {r : List Int} {a : Nat} {p : Part}, r.length = b.length → inB b r = true → a < b.length → inB (put b a p) r = decide (r.getD a 0 ∈ p.vs)
  | [], _, _, _, _, _, h => by cases h
  | q :: b, [], _, _, h, _, _ => by cases h
  | q :: b, v :: r, 0, p, hl, hi, _ => by
    unfold inB at hi
    rw [Bool.and_eq_true] at hi
    show (decide (v ∈ p.vs) && inB b r) = _
    rw [hi.2, Bool.and_true]; rfl
  | q :: b, v :: r, a + 1, p, hl, hi, h => by
    unfold inB at hi
    rw [Bool.and_eq_true] at hi
    have ih := inB_put (b := b) (r := r) (a := a) (p := p) (by simpa using hl) hi.2 (by simpa using h)
    show (decide (v ∈ q.vs) && inB (put b a p) r) = _
    rw [ih, hi.1, Bool.true_and]; rfl
theorem idx_rowD {r : List Int} {a : Nat} (h : a < r.length) : idxT (.leaf (rowD r)) (.int (a : Int)) = some (.leaf (.int (r.getD a 0))) := by
  rw [idx_row h, List.getD_eq_getElem?_getD, List.getElem?_eq_getElem h]; rfl
theorem idx_box {b : Box} {a : Nat} (h : a < b.length) : idxT (.leaf (boxD b)) (.int (a : Int)) = some (.leaf (partD b[a])) := by
  refine idx_tupN ?_
  rw [List.getElem?_map, List.getElem?_eq_getElem h]; rfl
theorem lit3 {j : Nat} {d : D} (h : [PyData.tuple [.int 0], .tuple [.int 1], .tuple [.int 0, .int 1]][j]? = some d) : ∃ p, d = partD p := by
  have hj := get_lt h
  have : j = 0 ∨ j = 1 ∨ j = 2 := by simp only [List.length_cons, List.length_nil] at hj; omega
  rcases this with rfl | rfl | rfl
  · cases h; exact ⟨.o, rfl⟩
  · cases h; exact ⟨.i, rfl⟩
  · cases h; exact ⟨.b, rfl⟩
theorem wp_changed {n : Nat} {b : Box} {t : T} {Q : T → List (Option T) → Prop} (hm : Bas t) (h0 : 0 < b.length) (h1 : b.length ≤ 6) (k : ∀ t', Bas t' → t'.free = false → Q (.leaf (.bool true)) [some t', none]) :
    wF (run tbl.fn (n + 4) 13 [t, .leaf (boxD b)]) Q := by
  rw [wF_run (np := 2) (nv := 8) (body := b__law_changed) rfl rfl]
  unfold b__law_changed
  have f0 := bas_free hm
  have f1 := @mvK_of
  have e1 := @len_box b
  have k := Fact.mk k
  walk_at "px*"
  refine wp_taken hm (by omega) (by omega) (by omega) (by omega) fun t1 v hm1 v0 v1 f2 => ?_
  obtain ⟨a, rfl⟩ := Int.eq_ofNat_of_zero_le v0
  have ha : a < b.length := by omega
  obtain ⟨q, hq1, hq, hp⟩ := prod_put ha
  walk_at "px*"
  refine forM_inv (fun j ρ => ∃ c4 c5 c6 c7, slotOk (some c4) = true ∧ slotOk (some c6) = true ∧ ρ = [some t1, some (.leaf (boxD b)), some (.leaf (.int (b.length : Int))), some (.leaf (.int (a : Int))), c4, c5, c6, c7]) ⟨none, none, none, none, rfl, rfl, rfl⟩ ?_ ?_
  · intro j d ρ hd hI
    obtain ⟨c4, c5, c6, c7, hc4, hc6, rfl⟩ := hI
    obtain ⟨p, rfl⟩ := lit3 hd
    have s1 := box_to (b := b) (a := a) (by omega)
    have s2 := box_from (b := b) (a := a) (by omega)
    obtain ⟨a1, a2⟩ := put_e (b := b) (a := a) (p := p) (by omega)
    have pl := put_len (p := p) ha
    have x1 := sp_asked (n := n) (b := put b a p) (by omega) (by omega)
    have x2 := sp_members (n := n + 2) h0 h1
    have x3 := fun r => sp_in (n := n + 2) (b := put b a p) (r := r) (by omega)
    have x4 := sp_size (n := n + 2) (b := put b a p) (by omega)
    have x5 := sp_least (n := n + 2) (b := put b a p) (by omega)
    have x6 := sp_members (n := n + 2) (b := put b a p) (by omega) (by omega)
    have x7 := sp_row (n := n + 1) (r := leastB (put b a p)) (by rw [least_len]; omega)
    have x8 := rows0 (put b a p)
    have x9 := @len_rows (rowsB b)
    rw [rowsB_len] at x9
    have x10 := @len_part p
    have x11 := @len_part b[a]
    have x12 := idx_box ha
    have pp := part_len p
    have pb := part_len b[a]
    have r1 : (0 : Int) < ((b[a]).vs.length : Int) := by omega
    have r2 : ((b[a]).vs.length : Int) < 1073741824 := by omega
    have r3 : (prodB b : Int) / ((b[a]).vs.length : Int) * (p.vs.length : Int) = (prodB (put b a p) : Int) := by
      rw [hq, hp p, Int.natCast_mul, Int.mul_ediv_cancel_left _ (by omega), Int.natCast_mul, Int.mul_comm]
    have r4 : mulOk ((prodB b : Int) / ((b[a]).vs.length : Int)) (p.vs.length : Int) = true := mulOk_r (by omega)
    have r5 := @sp_number (n + 2) (prodB (put b a p) : Int) (prodB (put b a p) : Int)
    have r6 : ¬ ((prodB (put b a p) : Int) = 0) := by have := prodB_pos (put b a p); omega
    have hrow : ∀ r ∈ rowsB b, r.length = b.length ∧ inB (put b a p) r = decide (r.getD a 0 ∈ p.vs) := fun r hr => by
      have hl := row_len b r hr
      have hi := mem_rows b r hl
      rw [decide_eq_true hr] at hi
      exact ⟨hl, inB_put hl hi.symm ha⟩
    have hrow := Fact.mk hrow
    have x3F := Fact.mk x3
    have h1F := Fact.mk (And.intro h1 ha)
    rename_i hrow'
    generalize b[a]'ha = pa at *
    generalize hM : ((rowsB b).map rowD).map T.leaf = M at *
    clear hd hrow' x3 pl pp pb hq hp h0 h1 v0 v1 f0
    walk_at "px*"
    have lM : leaves M = some ((rowsB b).map rowD) := by rw [← hM, leaves_map]
    clear hM
    walk_at "px*"
    refine forM_inv (fun i ρ => ∃ c6, slotOk (some c6) = true ∧ ρ = [some t1, some (.leaf (boxD b)), some (.leaf (.int (b.length : Int))), some (.leaf (.int (a : Int))), some (.leaf (partD p)), some (.leaf (boxD (put b a p))), c6, c7]) ⟨c6, hc6, rfl⟩ ?_ ?_
    · intro i d ρ hd hI
      obtain ⟨c6, hc6, rfl⟩ := hI
      rw [List.getElem?_map] at hd
      cases hj : (rowsB b)[i]? with
      | none => rw [hj] at hd; cases hd
      | some r =>
        rw [hj] at hd
        simp only [Option.map_some, Option.some.injEq] at hd
        subst hd
        obtain ⟨hl, hv⟩ := hrow.out r (List.mem_of_getElem? hj)
        have q1 := x3F.out r (by rw [hl]; exact h1F.out.1)
        rw [hv] at q1
        have q2 := idx_rowD (r := r) (a := a) (by rw [hl]; exact h1F.out.2)
        have q3 := @in_part (r.getD a 0) p
        have q4 := @sp_truth (n + 2) (decide (r.getD a 0 ∈ p.vs)) (decide (r.getD a 0 ∈ p.vs))
        rw [beq_self_eq_true] at q4
        clear hl hv hj lM x1 x2 x4 x5 x6 x7 x8 x9 x12
        generalize decide (r.getD a 0 ∈ p.vs) = bb at *
        walk_at "px*"
        exact ⟨_, rfl, rfl⟩
    · intro ρ hI
      obtain ⟨c6, hc6, rfl⟩ := hI
      clear lM
      walk_at "px*"
      exact ⟨_, _, _, _, rfl, hc6, rfl⟩
  · intro ρ hI
    obtain ⟨c4, c5, c6, c7, hc4, hc6, rfl⟩ := hI
    have q := k.out t1 hm1 f2
    clear hp k
    walk_at "px*"
end L
namespace L
open PySem Pz PySem.W
local macro_rules | `(tactic| walk_at "px") => `(tactic| simp (implicitDefEqProofs := false) only [wE_non, wE_bl, wE_int, wE_str, wE_glob, vE_varR, q_kAt, q_kGo, wE_varM, wO_some, wO_none, mvK_leaf, mvK_scr, mvK_lst, mvK_dct, wE_bin, q_kBin, vBin2, q_kBin3, wE_neg, vNeg, q_kNeg2, asInt, 
  wE_cmp, q_kCmp, vCmp2, q_kCmp3, kB_at, wC_cmp, vTru, wC_var, wC_and, wC_call, wC_idx, wC_f1, wC_bin, wC_mt, wC_bl, is_nn, is_in, is_tn, is_sn, isnot_nn, isnot_in, isnot_tn, isnot_sn, truth_none, truth_bool, truth_int, truth_tup, truth_lst, Bool.not_true, Bool.not_false,  wC_or, wC_not, q_isAnd, q_isOr, q_isNot, wE_idx, q_kIdx, vIdx2, q_kIdx3, q_kIdx4, q_kIdx5, wE_tup, vTup, q_kTup2, wE_lst, q_kLst, 
  wEs_nil, wEs_non, wEs_bl, wEs_int, wEs_str, wEs_glob, wEs_tup, wEs_lst, wEs_dct, wEs_bin, wEs_neg, wEs_cmp, wEs_chain, wEs_and, wEs_or, wEs_not, wEs_ite, wEs_idx, wEs_slice, wEs_rev, wEs_call, wEs_call0, wEs_callK, wEs_f1, wEs_f2, wEs_isi, wEs_comp, wEs_pop, wEs_mt, wEs_gidx, wEs_frz, wEs_var, q_kVar, q_kVarT, wEsO_nil, wEsO_cons, q_kEsO, q_kEs, q_kEsT, wE_call0, q_kC0, wC_call0, wE_call, vCall, q_kCall2, wE_f1, vF1, wE_isi, wC_isi, vIsi, wE_ite, vIte, q_kIte2, wE_f2, q_kF2, vF22, wI_seq, vSeq, wI_rng1, wE_lrng, lrng_t, lrng_l, wEs_lrng, wI_rng2, kR20_at, kR21_at, wI_rng3, kR30_at, kR31_at, big_m1, vRng1, q_kRng2, wI_enum, vEnum, 
  q_kEnum2, wI_zip, q_kZip, vZip2, q_kZip3, q_kZip4, q_kZip5, q_kZip6, wE_comp, vComp, q_kComp2, q_kCompE, vompF_nop, q_kBd, q_kBc, q_kEnd2, vEnd, vYes, wE_chain, wC_chain, q_kCh, q_kCh2, vCh3, q_kChB, wE_dct, 
  q_kDct, wE_and, vVAnd, q_kVAnd3, q_kVAnd4, q_kVAnd2, wE_or, vVOr, q_kVOr3, q_kVOr4, wE_not, vVNot, q_kVNot2, wOp_nop, vOpt, q_kOpt2, wE_slice, q_kSl, q_kSl2, vSl3, q_kSl4, wE_rev, vRev, q_kRev2, wE_pop, 
  vPop, q_kPop2, q_kPop3, q_kPop4, wE_callK, q_kCallK, vCallK2, q_kCK2, q_kCK3, q_kCK4, q_kCK5, wF_ret, putBack, wQ_next, wQ_ret, cast0, kThn_next, kThn_ret, kThn_brk, kThn_cont, wT_nil, wT_retN, wT_brk, wT_cont, 
  wT_pass, wT_set, vSet, wT_asg, vAsg, q_kAsg2, wT_par, vPar, wT_ret, q_kRet, wT_expr, q_kExpr, wT_ite, q_kIf, wT_mut, vMut, q_kMu2, q_kMu3, q_kMu4, wT_ext, vExt, q_kExt2, kExt.seqL, wT_store, 
  q_kStore, vStore2, q_kSt3, q_kSt4, q_kSt5, vorF_at, q_kPut, wT_for, q_kFor, kFr, kTurn_next, kTurn_cont, kTurn_brk, kTurn_ret, kJ_next, kJ_ret, Pz.opnd, Pz.pureE, Pz.pureEs, Pz.stands, itemsS_tup, itemsS_list, itemsS_scr, itemsS_str, itemsS_lst, items_tup, items_list, items_scr, items_lst, Pz.leafOf, 
  leaves, isLeaf_leaf, isLeaf_lst, isLeaf_dct, isLeaf_scr, isLeaf_rng, free_leaf, free_lst, free_dct, free_scr, free_rng, flat_leaf, flat_lst, Pz.getSlot, Pz.setSlot, setSlots, Pz.bindIo, bindP_v, bindP_t, bindPs_nil, bindPs_cons, keyOf_str, keyOf_int, patVs, patsVs, wipeR_nil, wipeR_cons, 
  slotOk_none, slotOk_leaf, takeIt, takeOut, takeOuts, putIt, Pz.putIn, ioIt, ioOp, ioOf, restore, allBack, Pz.outsOf, O.map1, isNop, ioOps0, putIns0, Pz.isLst, Pz.isCon, stepsD, stepD, 
  onPath, isL, isC, mutT, extT, storeT_dct, sl_0, sl_1, sl_2, il_0, il_1, il_2, it_0, it_1, it_2, it_3, Option.isSome_some, List.isEmpty_nil, cmp_eqI, cmp_neI, cmp_ltI, cmp_gtI, cmp_leI, cmp_geI, bin_addI, bin_addT, bin_subI, bin_mulR, bin_mulL, bin_mulI, 
  bin_modI, bin_divL, Nat.reducePow, Int.reduceLT, Int.reduceEq, Int.reduceNe, Int.reduceLE, Int.reduceAdd, Int.reduceSub, Int.reduceMul, Int.reduceNeg, Int.reduceToNat, len_lst, len_tup, leaves_ints, 
  leaves_map, tup_lst, tInts_len, List.getElem?_cons_zero, List.getElem?_cons_succ, List.set_cons_zero, List.set_cons_succ, List.length_cons, List.zip_cons_cons, List.zip_nil_left, List.length_nil, List.length_map, List.map_cons, 
  List.map_nil, List.cons_append, List.nil_append, List.replicate, List.any_cons, List.any_nil, List.append_nil, Nat.sub_self, Nat.reduceSub, Nat.reduceAdd, Nat.reduceLeDiff, 
  Nat.reduceEqDiff, ↓reduceIte, ite_self, reduceCtorEq, ne_eq, not_false_eq_true, not_true_eq_false, true_and, and_true, false_and, and_false, true_or, or_true, false_or, or_false, 
  Bool.or_false, Bool.or_true, Bool.false_or, Bool.true_or, Bool.and_true, Bool.true_and, Bool.and_self, Bool.or_self, if_true, if_false, Pz.isTy, Pz.kdOf, isKd, szE, Nat.reduceLT, 
  Option.map_some, decide_true, decide_false, Bool.false_eq_true, List.mem_cons, List.not_mem_nil, Nat.lt_irrefl, Nat.le_refl, wOp_non, vompF_non, wOp_bl, vompF_bl, wOp_int, vompF_int, wOp_str, vompF_str, wOp_var, vompF_var, wOp_glob, vompF_glob, wOp_tup, vompF_tup, wOp_lst, vompF_lst, wOp_dct, vompF_dct, wOp_bin, vompF_bin, wOp_neg, vompF_neg, wOp_cmp, vompF_cmp, wOp_chain, vompF_chain, wOp_and, vompF_and, wOp_or, vompF_or, wOp_not, vompF_not, wOp_ite, vompF_ite, wOp_idx, vompF_idx, wOp_slice, vompF_slice, wOp_rev, vompF_rev, wOp_call, vompF_call, wOp_f1, vompF_f1, wOp_f2, vompF_f2, wOp_isi, vompF_isi, wOp_comp, vompF_comp, wOp_pop, vompF_pop, wOp_mt, vompF_mt, wOp_gidx, vompF_gidx, wOp_frz, vompF_frz, big62_of, int_int, abs_int, tInts_snoc, tStrs_snoc, tStrs_len, leaves_strs, Pz.isLst, onPath, permL])
local macro_rules | `(tactic| walk_at "px*") => `(tactic| simp (implicitDefEqProofs := false) only [wE_non, wE_bl, wE_int, wE_str, wE_glob, vE_varR, q_kAt, q_kGo, wE_varM, wO_some, wO_none, mvK_leaf, mvK_scr, mvK_lst, mvK_dct, wE_bin, q_kBin, vBin2, q_kBin3, wE_neg, vNeg, q_kNeg2, asInt, 
  wE_cmp, q_kCmp, vCmp2, q_kCmp3, kB_at, wC_cmp, vTru, wC_var, wC_and, wC_call, wC_idx, wC_f1, wC_bin, wC_mt, wC_bl, is_nn, is_in, is_tn, is_sn, isnot_nn, isnot_in, isnot_tn, isnot_sn, truth_none, truth_bool, truth_int, truth_tup, truth_lst, Bool.not_true, Bool.not_false,  wC_or, wC_not, q_isAnd, q_isOr, q_isNot, wE_idx, q_kIdx, vIdx2, q_kIdx3, q_kIdx4, q_kIdx5, wE_tup, vTup, q_kTup2, wE_lst, q_kLst, 
  wEs_nil, wEs_non, wEs_bl, wEs_int, wEs_str, wEs_glob, wEs_tup, wEs_lst, wEs_dct, wEs_bin, wEs_neg, wEs_cmp, wEs_chain, wEs_and, wEs_or, wEs_not, wEs_ite, wEs_idx, wEs_slice, wEs_rev, wEs_call, wEs_call0, wEs_callK, wEs_f1, wEs_f2, wEs_isi, wEs_comp, wEs_pop, wEs_mt, wEs_gidx, wEs_frz, wEs_var, q_kVar, q_kVarT, wEsO_nil, wEsO_cons, q_kEsO, q_kEs, q_kEsT, wE_call0, q_kC0, wC_call0, wE_call, vCall, q_kCall2, wE_f1, vF1, wE_isi, wC_isi, vIsi, wE_ite, vIte, q_kIte2, wE_f2, q_kF2, vF22, wI_seq, vSeq, wI_rng1, wE_lrng, lrng_t, lrng_l, wEs_lrng, wI_rng2, kR20_at, kR21_at, wI_rng3, kR30_at, kR31_at, big_m1, vRng1, q_kRng2, wI_enum, vEnum, 
  q_kEnum2, wI_zip, q_kZip, vZip2, q_kZip3, q_kZip4, q_kZip5, q_kZip6, wE_comp, vComp, q_kComp2, q_kCompE, vompF_nop, q_kBd, q_kBc, q_kEnd2, vEnd, vYes, wE_chain, wC_chain, q_kCh, q_kCh2, vCh3, q_kChB, wE_dct, 
  q_kDct, wE_and, vVAnd, q_kVAnd3, q_kVAnd4, q_kVAnd2, wE_or, vVOr, q_kVOr3, q_kVOr4, wE_not, vVNot, q_kVNot2, wOp_nop, vOpt, q_kOpt2, wE_slice, q_kSl, q_kSl2, vSl3, q_kSl4, wE_rev, vRev, q_kRev2, wE_pop, 
  vPop, q_kPop2, q_kPop3, q_kPop4, wE_callK, q_kCallK, vCallK2, q_kCK2, q_kCK3, q_kCK4, q_kCK5, wF_ret, putBack, wQ_next, wQ_ret, cast0, kThn_next, kThn_ret, kThn_brk, kThn_cont, wT_nil, wT_retN, wT_brk, wT_cont, 
  wT_pass, wT_set, vSet, wT_asg, vAsg, q_kAsg2, wT_par, vPar, wT_ret, q_kRet, wT_expr, q_kExpr, wT_ite, q_kIf, wT_mut, vMut, q_kMu2, q_kMu3, q_kMu4, wT_ext, vExt, q_kExt2, kExt.seqL, wT_store, 
  q_kStore, vStore2, q_kSt3, q_kSt4, q_kSt5, vorF_at, q_kPut, wT_for, q_kFor, kFr, kTurn_next, kTurn_cont, kTurn_brk, kTurn_ret, kJ_next, kJ_ret, Pz.opnd, Pz.pureE, Pz.pureEs, Pz.stands, itemsS_tup, itemsS_list, itemsS_scr, itemsS_str, itemsS_lst, items_tup, items_list, items_scr, items_lst, Pz.leafOf, 
  leaves, isLeaf_leaf, isLeaf_lst, isLeaf_dct, isLeaf_scr, isLeaf_rng, free_leaf, free_lst, free_dct, free_scr, free_rng, flat_leaf, flat_lst, Pz.getSlot, Pz.setSlot, setSlots, Pz.bindIo, bindP_v, bindP_t, bindPs_nil, bindPs_cons, keyOf_str, keyOf_int, patVs, patsVs, wipeR_nil, wipeR_cons, 
  slotOk_none, slotOk_leaf, takeIt, takeOut, takeOuts, putIt, Pz.putIn, ioIt, ioOp, ioOf, restore, allBack, Pz.outsOf, O.map1, isNop, ioOps0, putIns0, Pz.isLst, Pz.isCon, stepsD, stepD, 
  onPath, isL, isC, mutT, extT, storeT_dct, sl_0, sl_1, sl_2, il_0, il_1, il_2, it_0, it_1, it_2, it_3, Option.isSome_some, List.isEmpty_nil, cmp_eqI, cmp_neI, cmp_ltI, cmp_gtI, cmp_leI, cmp_geI, bin_addI, bin_addT, bin_subI, bin_mulR, bin_mulL, bin_mulI, 
  bin_modI, bin_divL, Nat.reducePow, Int.reduceLT, Int.reduceEq, Int.reduceNe, Int.reduceLE, Int.reduceAdd, Int.reduceSub, Int.reduceMul, Int.reduceNeg, Int.reduceToNat, len_lst, len_tup, leaves_ints, 
  leaves_map, tup_lst, tInts_len, List.getElem?_cons_zero, List.getElem?_cons_succ, List.set_cons_zero, List.set_cons_succ, List.length_cons, List.zip_cons_cons, List.zip_nil_left, List.length_nil, List.length_map, List.map_cons, 
  List.map_nil, List.cons_append, List.nil_append, List.replicate, List.any_cons, List.any_nil, List.append_nil, Nat.sub_self, Nat.reduceSub, Nat.reduceAdd, Nat.reduceLeDiff, 
  Nat.reduceEqDiff, ↓reduceIte, ite_self, reduceCtorEq, ne_eq, not_false_eq_true, not_true_eq_false, true_and, and_true, false_and, and_false, true_or, or_true, false_or, or_false, 
  Bool.or_false, Bool.or_true, Bool.false_or, Bool.true_or, Bool.and_true, Bool.true_and, Bool.and_self, Bool.or_self, if_true, if_false, Pz.isTy, Pz.kdOf, isKd, szE, Nat.reduceLT, 
  Option.map_some, decide_true, decide_false, Bool.false_eq_true, List.mem_cons, List.not_mem_nil, Nat.lt_irrefl, Nat.le_refl, wOp_non, vompF_non, wOp_bl, vompF_bl, wOp_int, vompF_int, wOp_str, vompF_str, wOp_var, vompF_var, wOp_glob, vompF_glob, wOp_tup, vompF_tup, wOp_lst, vompF_lst, wOp_dct, vompF_dct, wOp_bin, vompF_bin, wOp_neg, vompF_neg, wOp_cmp, vompF_cmp, wOp_chain, vompF_chain, wOp_and, vompF_and, wOp_or, vompF_or, wOp_not, vompF_not, wOp_ite, vompF_ite, wOp_idx, vompF_idx, wOp_slice, vompF_slice, wOp_rev, vompF_rev, wOp_call, vompF_call, wOp_f1, vompF_f1, wOp_f2, vompF_f2, wOp_isi, vompF_isi, wOp_comp, vompF_comp, wOp_pop, vompF_pop, wOp_mt, vompF_mt, wOp_gidx, vompF_gidx, wOp_frz, vompF_frz, big62_of, int_int, abs_int, tInts_snoc, tStrs_snoc, tStrs_len, leaves_strs, Pz.isLst, onPath, permL, *])
/-! ### rows sorted -/
theorem bit_rows : ∀ (b : Box) (r : List Int), r ∈ rowsB b → TS.Bd 1000 r
  | [], r, h => by simp [rowsB] at h; subst h; intro m hm; cases hm
  | p :: b, r, h => by
    simp only [rowsB, List.mem_flatMap, List.mem_map] at h
    obtain ⟨w, hw, t, ht, rfl⟩ := h
    intro m hm
    rcases List.mem_cons.1 hm with rfl | hm
    · cases p <;> simp [Part.vs] at hw <;> omega
    · exact bit_rows b t ht m hm
theorem rows_sorted : ∀ (b : Box), (rowsB b).Pairwise leT
  | [] => List.pairwise_singleton _ _
  | p :: b => by
    have ih := rows_sorted b
    have one : ∀ v : Int, ((rowsB b).map fun t => v :: t).Pairwise leT := fun v => by
      rw [List.pairwise_map]
      refine List.Pairwise.imp_of_mem (fun {x y} hx hy hxy => ?_) ih
      have lx := row_len b x hx
      have ly := row_len b y hy
      show v * 1000 ^ x.length + TS.code 1000 x ≤ v * 1000 ^ y.length + TS.code 1000 y
      rw [lx, ly]
      have : TS.code 1000 x ≤ TS.code 1000 y := hxy
      omega
    have two : ∀ x ∈ rowsB b, ∀ y ∈ rowsB b, leT (0 :: x) (1 :: y) := fun x hx y hy =>
      Int.le_of_lt (TS.code_lt (by rw [row_len b x hx, row_len b y hy]) (bit_rows b x hx) (bit_rows b y hy) (by omega))
    cases p with
    | o => simpa [rowsB, Part.vs] using one 0
    | i => simpa [rowsB, Part.vs] using one 1
    | b =>
      simp only [rowsB, Part.vs, List.flatMap_cons, List.flatMap_nil, List.append_nil]
      rw [List.pairwise_append]
      refine ⟨one 0, one 1, fun x hx y hy => ?_⟩
      obtain ⟨x', hx', rfl⟩ := List.mem_map.1 hx
      obtain ⟨y', hy', rfl⟩ := List.mem_map.1 hy
      exact two x' hx' y' hy'
theorem rows_split : ∀ {b : Box} {a : Nat} (h : a < b.length), b[a] = .b → (rowsB b).Perm (rowsB (put b a .o) ++ rowsB (put b a .i))
  | [], _, h, _ => by cases h
  | q :: b, 0, h, e => by
    have e : q = .b := e
    subst e
    have e1 : put (.b :: b) 0 .o = .o :: b := by simp [put]
    have e2 : put (.b :: b) 0 .i = .i :: b := by simp [put]
    rw [e1, e2]
    simp [rowsB, Part.vs]
  | q :: b, a + 1, h, e => by
    have ih := rows_split (b := b) (a := a) (by simpa using h) (by simpa using e)
    have e1 : ∀ p, put (q :: b) (a + 1) p = q :: put b a p := fun p => by simp [put]
    rw [e1, e1]
    cases q with
    | o => simpa [rowsB, Part.vs] using ih.map (fun t => (0 : Int) :: t)
    | i => simpa [rowsB, Part.vs] using ih.map (fun t => (1 : Int) :: t)
    | b =>
      have m0 := ih.map (fun t => (0 : Int) :: t)
      have m1 := ih.map (fun t => (1 : Int) :: t)
      rw [List.map_append] at m0 m1
      simp only [rowsB, Part.vs, List.flatMap_cons, List.flatMap_nil, List.append_nil]
      refine (m0.append m1).trans ?_
      generalize List.map (fun t => (0 : Int) :: t) (rowsB (put b a .o)) = A
      generalize List.map (fun t => (0 : Int) :: t) (rowsB (put b a .i)) = B
      generalize List.map (fun t => (1 : Int) :: t) (rowsB (put b a .o)) = C
      generalize List.map (fun t => (1 : Int) :: t) (rowsB (put b a .i)) = D
      rw [List.append_assoc, List.append_assoc]
      refine List.Perm.append_left A ?_
      rw [← List.append_assoc, ← List.append_assoc]
      exact List.Perm.append_right D List.perm_append_comm
theorem tupsOf_map : ∀ (nss : List (List Int)), tupsOf (nss.map rowD) = some nss
  | [] => rfl
  | ns :: r => by
    rw [List.map_cons, tupsOf, tupsOf_map r]
    have : Pz.tupI (rowD ns) = some ns := intsOf_map ns
    rw [this]
theorem sorted_rows {nss : List (List Int)} {d : Nat} (h0 : nss ≠ []) (hd : 1 ≤ d) (h : ∀ ns ∈ nss, ns.length = d ∧ TS.Bd 1000 ns) : fun1 .sorted (.lst ((nss.map rowD).map .leaf)) = some (.lst (((sortT nss).map rowD).map .leaf)) := by
  have hi : intsOf (nss.map rowD) = none := by
    cases nss with
    | nil => exact absurd rfl h0
    | cons n r => rfl
  have hok : okTups nss = true := by
    cases nss with
    | nil => exact absurd rfl h0
    | cons n r =>
      obtain ⟨l1, _⟩ := h n (List.mem_cons_self ..)
      unfold okTups
      rw [Bool.and_eq_true, decide_eq_true_eq, List.all_eq_true]
      refine ⟨by omega, fun m hm => ?_⟩
      obtain ⟨l2, b2⟩ := h m hm
      rw [Bool.and_eq_true, decide_eq_true_eq, List.all_eq_true]
      refine ⟨by omega, fun x hx => ?_⟩
      have := b2 x hx
      simp only [Bool.and_eq_true, decide_eq_true_eq]
      exact this
  unfold fun1
  simp only [flat_lst, leaves_map, Option.map_some, hi, tupsOf_map, hok, if_true]
  rfl
theorem ne_rows {rs : List (List Int)} : cmpOp .ne (.lst ((rs.map rowD).map .leaf)) (.lst ((rs.map rowD).map .leaf)) = some false := by
  have e : eqD (.list (rs.map rowD)) (.list (rs.map rowD)) = some true := by
    unfold eqD
    rw [if_pos ⟨shaped_rows rs, shaped_rows rs⟩]
    congr 1
    rw [PyData.eqv]
    induction rs with
    | nil => rfl
    | cons r s ih => rw [List.map_cons, PyData.eqvAll, eqv_row, ih]; simp
  show (match T.flat (.lst ((rs.map rowD).map .leaf)), T.flat (.lst ((rs.map rowD).map .leaf)) with | some x, some y => (match eqD x y with | some k => some (!k) | none => none) | _, _ => none) = _
  simp only [flat_lst, leaves_map, Option.map_some, e]
  rfl
theorem bin_addL {xs ys : List D} (h : xs.length + ys.length ≤ 16777216) : binOp .add (.lst (xs.map .leaf)) (.lst (ys.map .leaf)) = some (.lst ((xs ++ ys).map .leaf)) := by
  show (match T.flat (.lst (xs.map .leaf)), T.flat (.lst (ys.map .leaf)) with | some (.list xs), some (.list ys) => if Op.add = Op.add ∧ xs.length + ys.length ≤ sizeLine then some (T.lst ((xs ++ ys).map .leaf)) else none | _, _ => none) = _
  simp only [flat_lst, leaves_map, Option.map_some]
  rw [if_pos ⟨trivial, by rw [szE]; exact h⟩]
theorem least_put {b : Box} {a : Nat} (h : a < b.length) (e : b[a] = .b) : leastB (put b a .o) = leastB b := by
  have := congrArg leastB (split_at h)
  rw [this]
  unfold put leastB
  rw [List.map_append, List.map_append, List.map_append, List.map_append, e]; rfl
theorem no_free : ∀ (b : Box), (∀ p ∈ b, p ≠ .b) → prodB b = 1
  | [], _ => rfl
  | p :: r, h => by
    have := no_free r fun q hq => h q (List.mem_cons_of_mem _ hq)
    have hp := h p (List.mem_cons_self ..)
    cases p
    · simp [prodB, Part.vs, this]
    · simp [prodB, Part.vs, this]
    · exact absurd rfl hp
end L
namespace L
open PySem Pz PySem.W
local macro_rules | `(tactic| walk_at "px") => `(tactic| simp (implicitDefEqProofs := false) only [wE_non, wE_bl, wE_int, wE_str, wE_glob, vE_varR, q_kAt, q_kGo, wE_varM, wO_some, wO_none, mvK_leaf, mvK_scr, mvK_lst, mvK_dct, wE_bin, q_kBin, vBin2, q_kBin3, wE_neg, vNeg, q_kNeg2, asInt, 
  wE_cmp, q_kCmp, vCmp2, q_kCmp3, kB_at, wC_cmp, vTru, wC_var, wC_and, wC_call, wC_idx, wC_f1, wC_bin, wC_mt, wC_bl, is_nn, is_in, is_tn, is_sn, isnot_nn, isnot_in, isnot_tn, isnot_sn, truth_none, truth_bool, truth_int, truth_tup, truth_lst, Bool.not_true, Bool.not_false,  wC_or, wC_not, q_isAnd, q_isOr, q_isNot, wE_idx, q_kIdx, vIdx2, q_kIdx3, q_kIdx4, q_kIdx5, wE_tup, vTup, q_kTup2, wE_lst, q_kLst, 
  wEs_nil, wEs_non, wEs_bl, wEs_int, wEs_str, wEs_glob, wEs_tup, wEs_lst, wEs_dct, wEs_bin, wEs_neg, wEs_cmp, wEs_chain, wEs_and, wEs_or, wEs_not, wEs_ite, wEs_idx, wEs_slice, wEs_rev, wEs_call, wEs_call0, wEs_callK, wEs_f1, wEs_f2, wEs_isi, wEs_comp, wEs_pop, wEs_mt, wEs_gidx, wEs_frz, wEs_var, q_kVar, q_kVarT, wEsO_nil, wEsO_cons, q_kEsO, q_kEs, q_kEsT, wE_call0, q_kC0, wC_call0, wE_call, vCall, q_kCall2, wE_f1, vF1, wE_isi, wC_isi, vIsi, wE_ite, vIte, q_kIte2, wE_f2, q_kF2, vF22, wI_seq, vSeq, wI_rng1, wE_lrng, lrng_t, lrng_l, wEs_lrng, wI_rng2, kR20_at, kR21_at, wI_rng3, kR30_at, kR31_at, big_m1, vRng1, q_kRng2, wI_enum, vEnum, 
  q_kEnum2, wI_zip, q_kZip, vZip2, q_kZip3, q_kZip4, q_kZip5, q_kZip6, wE_comp, vComp, q_kComp2, q_kCompE, vompF_nop, q_kBd, q_kBc, q_kEnd2, vEnd, vYes, wE_chain, wC_chain, q_kCh, q_kCh2, vCh3, q_kChB, wE_dct, 
  q_kDct, wE_and, vVAnd, q_kVAnd3, q_kVAnd4, q_kVAnd2, wE_or, vVOr, q_kVOr3, q_kVOr4, wE_not, vVNot, q_kVNot2, wOp_nop, vOpt, q_kOpt2, wE_slice, q_kSl, q_kSl2, vSl3, q_kSl4, wE_rev, vRev, q_kRev2, wE_pop, 
  vPop, q_kPop2, q_kPop3, q_kPop4, wE_callK, q_kCallK, vCallK2, q_kCK2, q_kCK3, q_kCK4, q_kCK5, wF_ret, putBack, wQ_next, wQ_ret, cast0, kThn_next, kThn_ret, kThn_brk, kThn_cont, wT_nil, wT_retN, wT_brk, wT_cont, 
  wT_pass, wT_set, vSet, wT_asg, vAsg, q_kAsg2, wT_par, vPar, wT_ret, q_kRet, wT_expr, q_kExpr, wT_ite, q_kIf, wT_mut, vMut, q_kMu2, q_kMu3, q_kMu4, wT_ext, vExt, q_kExt2, kExt.seqL, wT_store, 
  q_kStore, vStore2, q_kSt3, q_kSt4, q_kSt5, vorF_at, q_kPut, wT_for, q_kFor, kFr, kTurn_next, kTurn_cont, kTurn_brk, kTurn_ret, kJ_next, kJ_ret, Pz.opnd, Pz.pureE, Pz.pureEs, Pz.stands, itemsS_tup, itemsS_list, itemsS_scr, itemsS_str, itemsS_lst, items_tup, items_list, items_scr, items_lst, Pz.leafOf, 
  leaves, isLeaf_leaf, isLeaf_lst, isLeaf_dct, isLeaf_scr, isLeaf_rng, free_leaf, free_lst, free_dct, free_scr, free_rng, flat_leaf, flat_lst, Pz.getSlot, Pz.setSlot, setSlots, Pz.bindIo, bindP_v, bindP_t, bindPs_nil, bindPs_cons, keyOf_str, keyOf_int, patVs, patsVs, wipeR_nil, wipeR_cons, 
  slotOk_none, slotOk_leaf, takeIt, takeOut, takeOuts, putIt, Pz.putIn, ioIt, ioOp, ioOf, restore, allBack, Pz.outsOf, O.map1, isNop, ioOps0, putIns0, Pz.isLst, Pz.isCon, stepsD, stepD, 
  onPath, isL, isC, mutT, extT, storeT_dct, sl_0, sl_1, sl_2, il_0, il_1, il_2, it_0, it_1, it_2, it_3, Option.isSome_some, List.isEmpty_nil, cmp_eqI, cmp_neI, cmp_ltI, cmp_gtI, cmp_leI, cmp_geI, bin_addI, bin_addT, bin_subI, bin_mulR, bin_mulL, bin_mulI, 
  bin_modI, bin_divL, Nat.reducePow, Int.reduceLT, Int.reduceEq, Int.reduceNe, Int.reduceLE, Int.reduceAdd, Int.reduceSub, Int.reduceMul, Int.reduceNeg, Int.reduceToNat, len_lst, len_tup, leaves_ints, 
  leaves_map, tup_lst, tInts_len, List.getElem?_cons_zero, List.getElem?_cons_succ, List.set_cons_zero, List.set_cons_succ, List.length_cons, List.zip_cons_cons, List.zip_nil_left, List.length_nil, List.length_map, List.map_cons, 
  List.map_nil, List.cons_append, List.nil_append, List.replicate, List.any_cons, List.any_nil, List.append_nil, Nat.sub_self, Nat.reduceSub, Nat.reduceAdd, Nat.reduceLeDiff, 
  Nat.reduceEqDiff, ↓reduceIte, ite_self, reduceCtorEq, ne_eq, not_false_eq_true, not_true_eq_false, true_and, and_true, false_and, and_false, true_or, or_true, false_or, or_false, 
  Bool.or_false, Bool.or_true, Bool.false_or, Bool.true_or, Bool.and_true, Bool.true_and, Bool.and_self, Bool.or_self, if_true, if_false, Pz.isTy, Pz.kdOf, isKd, szE, Nat.reduceLT, 
  Option.map_some, decide_true, decide_false, Bool.false_eq_true, List.mem_cons, List.not_mem_nil, Nat.lt_irrefl, Nat.le_refl, wOp_non, vompF_non, wOp_bl, vompF_bl, wOp_int, vompF_int, wOp_str, vompF_str, wOp_var, vompF_var, wOp_glob, vompF_glob, wOp_tup, vompF_tup, wOp_lst, vompF_lst, wOp_dct, vompF_dct, wOp_bin, vompF_bin, wOp_neg, vompF_neg, wOp_cmp, vompF_cmp, wOp_chain, vompF_chain, wOp_and, vompF_and, wOp_or, vompF_or, wOp_not, vompF_not, wOp_ite, vompF_ite, wOp_idx, vompF_idx, wOp_slice, vompF_slice, wOp_rev, vompF_rev, wOp_call, vompF_call, wOp_f1, vompF_f1, wOp_f2, vompF_f2, wOp_isi, vompF_isi, wOp_comp, vompF_comp, wOp_pop, vompF_pop, wOp_mt, vompF_mt, wOp_gidx, vompF_gidx, wOp_frz, vompF_frz, big62_of, int_int, abs_int, tInts_snoc, tStrs_snoc, tStrs_len, leaves_strs, Pz.isLst, onPath, permL])
local macro_rules | `(tactic| walk_at "px*") => `(tactic| simp (implicitDefEqProofs := false) only [wE_non, wE_bl, wE_int, wE_str, wE_glob, vE_varR, q_kAt, q_kGo, wE_varM, wO_some, wO_none, mvK_leaf, mvK_scr, mvK_lst, mvK_dct, wE_bin, q_kBin, vBin2, q_kBin3, wE_neg, vNeg, q_kNeg2, asInt, 
  wE_cmp, q_kCmp, vCmp2, q_kCmp3, kB_at, wC_cmp, vTru, wC_var, wC_and, wC_call, wC_idx, wC_f1, wC_bin, wC_mt, wC_bl, is_nn, is_in, is_tn, is_sn, isnot_nn, isnot_in, isnot_tn, isnot_sn, truth_none, truth_bool, truth_int, truth_tup, truth_lst, Bool.not_true, Bool.not_false,  wC_or, wC_not, q_isAnd, q_isOr, q_isNot, wE_idx, q_kIdx, vIdx2, q_kIdx3, q_kIdx4, q_kIdx5, wE_tup, vTup, q_kTup2, wE_lst, q_kLst, 
  wEs_nil, wEs_non, wEs_bl, wEs_int, wEs_str, wEs_glob, wEs_tup, wEs_lst, wEs_dct, wEs_bin, wEs_neg, wEs_cmp, wEs_chain, wEs_and, wEs_or, wEs_not, wEs_ite, wEs_idx, wEs_slice, wEs_rev, wEs_call, wEs_call0, wEs_callK, wEs_f1, wEs_f2, wEs_isi, wEs_comp, wEs_pop, wEs_mt, wEs_gidx, wEs_frz, wEs_var, q_kVar, q_kVarT, wEsO_nil, wEsO_cons, q_kEsO, q_kEs, q_kEsT, wE_call0, q_kC0, wC_call0, wE_call, vCall, q_kCall2, wE_f1, vF1, wE_isi, wC_isi, vIsi, wE_ite, vIte, q_kIte2, wE_f2, q_kF2, vF22, wI_seq, vSeq, wI_rng1, wE_lrng, lrng_t, lrng_l, wEs_lrng, wI_rng2, kR20_at, kR21_at, wI_rng3, kR30_at, kR31_at, big_m1, vRng1, q_kRng2, wI_enum, vEnum, 
  q_kEnum2, wI_zip, q_kZip, vZip2, q_kZip3, q_kZip4, q_kZip5, q_kZip6, wE_comp, vComp, q_kComp2, q_kCompE, vompF_nop, q_kBd, q_kBc, q_kEnd2, vEnd, vYes, wE_chain, wC_chain, q_kCh, q_kCh2, vCh3, q_kChB, wE_dct, 
  q_kDct, wE_and, vVAnd, q_kVAnd3, q_kVAnd4, q_kVAnd2, wE_or, vVOr, q_kVOr3, q_kVOr4, wE_not, vVNot, q_kVNot2, wOp_nop, vOpt, q_kOpt2, wE_slice, q_kSl, q_kSl2, vSl3, q_kSl4, wE_rev, vRev, q_kRev2, wE_pop, 
  vPop, q_kPop2, q_kPop3, q_kPop4, wE_callK, q_kCallK, vCallK2, q_kCK2, q_kCK3, q_kCK4, q_kCK5, wF_ret, putBack, wQ_next, wQ_ret, cast0, kThn_next, kThn_ret, kThn_brk, kThn_cont, wT_nil, wT_retN, wT_brk, wT_cont, 
  wT_pass, wT_set, vSet, wT_asg, vAsg, q_kAsg2, wT_par, vPar, wT_ret, q_kRet, wT_expr, q_kExpr, wT_ite, q_kIf, wT_mut, vMut, q_kMu2, q_kMu3, q_kMu4, wT_ext, vExt, q_kExt2, kExt.seqL, wT_store, 
  q_kStore, vStore2, q_kSt3, q_kSt4, q_kSt5, vorF_at, q_kPut, wT_for, q_kFor, kFr, kTurn_next, kTurn_cont, kTurn_brk, kTurn_ret, kJ_next, kJ_ret, Pz.opnd, Pz.pureE, Pz.pureEs, Pz.stands, itemsS_tup, itemsS_list, itemsS_scr, itemsS_str, itemsS_lst, items_tup, items_list, items_scr, items_lst, Pz.leafOf, 
  leaves, isLeaf_leaf, isLeaf_lst, isLeaf_dct, isLeaf_scr, isLeaf_rng, free_leaf, free_lst, free_dct, free_scr, free_rng, flat_leaf, flat_lst, Pz.getSlot, Pz.setSlot, setSlots, Pz.bindIo, bindP_v, bindP_t, bindPs_nil, bindPs_cons, keyOf_str, keyOf_int, patVs, patsVs, wipeR_nil, wipeR_cons, 
  slotOk_none, slotOk_leaf, takeIt, takeOut, takeOuts, putIt, Pz.putIn, ioIt, ioOp, ioOf, restore, allBack, Pz.outsOf, O.map1, isNop, ioOps0, putIns0, Pz.isLst, Pz.isCon, stepsD, stepD, 
  onPath, isL, isC, mutT, extT, storeT_dct, sl_0, sl_1, sl_2, il_0, il_1, il_2, it_0, it_1, it_2, it_3, Option.isSome_some, List.isEmpty_nil, cmp_eqI, cmp_neI, cmp_ltI, cmp_gtI, cmp_leI, cmp_geI, bin_addI, bin_addT, bin_subI, bin_mulR, bin_mulL, bin_mulI, 
  bin_modI, bin_divL, Nat.reducePow, Int.reduceLT, Int.reduceEq, Int.reduceNe, Int.reduceLE, Int.reduceAdd, Int.reduceSub, Int.reduceMul, Int.reduceNeg, Int.reduceToNat, len_lst, len_tup, leaves_ints, 
  leaves_map, tup_lst, tInts_len, List.getElem?_cons_zero, List.getElem?_cons_succ, List.set_cons_zero, List.set_cons_succ, List.length_cons, List.zip_cons_cons, List.zip_nil_left, List.length_nil, List.length_map, List.map_cons, 
  List.map_nil, List.cons_append, List.nil_append, List.replicate, List.any_cons, List.any_nil, List.append_nil, Nat.sub_self, Nat.reduceSub, Nat.reduceAdd, Nat.reduceLeDiff, 
  Nat.reduceEqDiff, ↓reduceIte, ite_self, reduceCtorEq, ne_eq, not_false_eq_true, not_true_eq_false, true_and, and_true, false_and, and_false, true_or, or_true, false_or, or_false, 
  Bool.or_false, Bool.or_true, Bool.false_or, Bool.true_or, Bool.and_true, Bool.true_and, Bool.and_self, Bool.or_self, if_true, if_false, Pz.isTy, Pz.kdOf, isKd, szE, Nat.reduceLT, 
  Option.map_some, decide_true, decide_false, Bool.false_eq_true, List.mem_cons, List.not_mem_nil, Nat.lt_irrefl, Nat.le_refl, wOp_non, vompF_non, wOp_bl, vompF_bl, wOp_int, vompF_int, wOp_str, vompF_str, wOp_var, vompF_var, wOp_glob, vompF_glob, wOp_tup, vompF_tup, wOp_lst, vompF_lst, wOp_dct, vompF_dct, wOp_bin, vompF_bin, wOp_neg, vompF_neg, wOp_cmp, vompF_cmp, wOp_chain, vompF_chain, wOp_and, vompF_and, wOp_or, vompF_or, wOp_not, vompF_not, wOp_ite, vompF_ite, wOp_idx, vompF_idx, wOp_slice, vompF_slice, wOp_rev, vompF_rev, wOp_call, vompF_call, wOp_f1, vompF_f1, wOp_f2, vompF_f2, wOp_isi, vompF_isi, wOp_comp, vompF_comp, wOp_pop, vompF_pop, wOp_mt, vompF_mt, wOp_gidx, vompF_gidx, wOp_frz, vompF_frz, big62_of, int_int, abs_int, tInts_snoc, tStrs_snoc, tStrs_len, leaves_strs, Pz.isLst, onPath, permL, *])
/-! ### parted -/
def freeL (b : Box) : List Int := ((List.range b.length).filter fun j => decide (b[j]? = some .b)).map fun (j : Nat) => (j : Int)
theorem free_mem {b : Box} {x : Int} (h : x ∈ freeL b) : ∃ (a : Nat) (h : a < b.length), x = (a : Int) ∧ b[a] = .b := by
  unfold freeL at h
  obtain ⟨a, ha, rfl⟩ := List.mem_map.1 h
  rw [List.mem_filter, decide_eq_true_eq] at ha
  obtain ⟨hl, e⟩ := List.getElem?_eq_some_iff.1 ha.2
  exact ⟨a, hl, rfl, e⟩
theorem free_nil {b : Box} (h : freeL b = []) : prodB b = 1 := by
  refine no_free b fun p hp e => ?_
  subst e
  obtain ⟨j, hj, e⟩ := List.getElem_of_mem hp
  unfold freeL at h
  rw [List.map_eq_nil_iff, List.filter_eq_nil_iff] at h
  have := h j (by rw [List.mem_range]; exact hj)
  rw [List.getElem?_eq_getElem hj, e] at this
  simp at this
theorem free_len {b : Box} : (freeL b).length ≤ b.length := by
  unfold freeL
  rw [List.length_map]
  exact Nat.le_trans (List.length_filter_le _ _) (by rw [List.length_range]; omega)
theorem len2 {p : Part} : decide ((p.vs.length : Int) = 2) = decide (p = .b) := by cases p <;> rfl
theorem tInts_nil : tInts [] = [] := rfl
theorem wp_parted {n : Nat} {b : Box} {t : T} {Q : T → List (Option T) → Prop} (hm : Bas t) (h0 : 0 < b.length) (h1 : b.length ≤ 6) (k : ∀ t', Bas t' → t'.free = false → Q (.leaf (.bool true)) [some t', none]) :
    wF (run tbl.fn (n + 4) 15 [t, .leaf (boxD b)]) Q := by
  rw [wF_run (np := 2) (nv := 10) (body := b__law_parted) rfl rfl]
  unfold b__law_parted
  have f0 := bas_free hm
  have f1 := @mvK_of
  have e1 := @len_box b
  have g1 := rng_at (i := (b.length : Int)) (by omega) (by omega)
  have k := Fact.mk k
  walk_at "px*"
  refine compM_filt (fun j => decide (b[j]? = some .b)) (fun j => T.leaf (.int ((j : Nat) : Int))) (xs := List.range (b.length : Int).toNat) (c := fun (j : Nat) => PyData.int (j : Int)) (fun j hj => ?_) ?_
  · have hj' : j < b.length := by rw [List.mem_range] at hj; omega
    have e4 := idx_box hj'
    have e5 := @len_part b[j]
    have e6 := @len2 b[j]
    rw [List.getElem?_eq_getElem hj']
    have e7 : decide (some b[j] = some Part.b) = decide (b[j] = .b) := by simp
    rw [e7]
    generalize b[j] = p at *
    clear hj e7
    cases hb : decide (p = .b) with
    | true =>
      rw [hb] at e6
      clear hb
      walk_at "px*"
      exact ⟨rfl, rfl⟩
    | false =>
      rw [hb] at e6
      clear hb
      walk_at "px*"
      exact ⟨rfl, rfl⟩
  · have e2 : ((List.range (b.length : Int).toNat).filter fun j => decide (b[j]? = some .b)).map (fun j => T.leaf (.int ((j : Nat) : Int))) = tInts (freeL b) := by
      unfold tInts freeL
      rw [List.map_map, Int.toNat_natCast]; rfl
    rw [e2]
    have hfl := @free_len b
    have l1 : (freeL b).length ≤ 16777216 := by omega
    clear e2
    rcases Nat.eq_zero_or_pos (freeL b).length with z | z
    · have z' := List.length_eq_zero_iff.1 z
      have e3 := sp_size (n := n + 2) h1
      rw [free_nil z'] at e3
      rw [show ((1 : Nat) : Int) = 1 from rfl] at e3
      have e4 := @sp_number (n + 2) 1 1
      have q := k.out t hm f0
      rw [z']
      clear k l1 hfl z z'
      walk_at "px*"
    · have z2 : ¬ (((freeL b).length : Int) = 0) := by omega
      have hflF := Fact.mk hfl
      clear hfl
      walk_at "px*"
      refine wp_taken hm (by omega) (by omega) (by omega) (by have := hflF.out; omega) fun t1 v hm1 v0 v1 f2 => ?_
      obtain ⟨x, hx, e3⟩ := at_ints (ns := freeL b) v0 v1
      obtain ⟨a, ha, rfl, hb⟩ := free_mem hx
      have s1 := box_to (b := b) (a := a) (by omega)
      have s2 := box_from (b := b) (a := a) (by omega)
      obtain ⟨a1, a2⟩ := put_e (b := b) (a := a) (p := .o) (by omega)
      obtain ⟨a3, a4⟩ := put_e (b := b) (a := a) (p := .i) (by omega)
      have po : partD .o = .tuple [.int 0] := rfl
      have pi : partD .i = .tuple [.int 1] := rfl
      rw [po] at a1 a2
      rw [pi] at a3 a4
      have c1 := @cm_cons
      have c2 := @cm_nil
      have c3 := @cm_at
      have c4 := @cm_some
      clear hx v0 v1 z
      walk_at "px*"
      clear c1 c2 c3 c4
      clear a1 a2 a3 a4 s1 s2 e3 l1 z2
      have pl0 := put_len (p := .o) ha
      have pl1 := put_len (p := .i) ha
      obtain ⟨q, hq1, hq, hp⟩ := prod_put ha
      rw [hb] at hq
      have hq0 : prodB (put b a .o) = q := by rw [hp]; exact Nat.one_mul q
      have hq1' : prodB (put b a .i) = q := by rw [hp]; exact Nat.one_mul q
      have hq2 : prodB b = 2 * q := hq
      have hle := prodB_le b
      have hle2 : 2 ^ b.length ≤ 2 ^ 6 := Nat.pow_le_pow_right (by omega) h1
      have sp := rows_split ha hb
      have hperm : (rowsB (put b a .o) ++ rowsB (put b a .i)).length = prodB b := by rw [← sp.length_eq, rowsB_len]
      have A : binOp .add (.lst (((rowsB (put b a .o)).map rowD).map .leaf)) (.lst (((rowsB (put b a .i)).map rowD).map .leaf)) = some (.lst (((rowsB (put b a .o) ++ rowsB (put b a .i)).map rowD).map .leaf)) := by
        rw [bin_addL (by rw [List.length_map, List.length_map, rowsB_len, rowsB_len]; omega), ← List.map_append]
      have ok : ∀ ns ∈ rowsB (put b a .o) ++ rowsB (put b a .i), ns ∈ rowsB b := fun ns hn => sp.mem_iff.2 hn
      have S := sorted_rows (nss := rowsB (put b a .o) ++ rowsB (put b a .i)) (d := b.length) (fun z => by rw [z] at hperm; have := prodB_pos b; simp at hperm; omega) (by omega) (fun ns hn => ⟨row_len b ns (ok ns hn), bit_rows b ns (ok ns hn)⟩)
      rw [← sortT_one (d := b.length) (fun ns hn => ⟨row_len b ns (ok ns hn), bit_rows b ns (ok ns hn)⟩) sp (rows_sorted b)] at S
      have N := @ne_rows (rowsB b)
      have L := @len_rows (rowsB (put b a .o) ++ rowsB (put b a .i))
      rw [hperm] at L
      have m0 := sp_members (n := n + 2) (b := put b a .o) (by omega) (by omega)
      have m1 := sp_members (n := n + 2) (b := put b a .i) (by omega) (by omega)
      have m2 := sp_members (n := n + 2) (b := b) (by omega) (by omega)
      have z0 := sp_size (n := n + 2) (b := put b a .o) (by omega)
      have z1 := sp_size (n := n + 2) (b := put b a .i) (by omega)
      rw [show (prodB (put b a .o) : Int) = (prodB b : Int) / 2 by omega] at z0
      rw [show (prodB (put b a .i) : Int) = (prodB b : Int) / 2 by omega] at z1
      have nu := @sp_number (n + 2) ((prodB b : Int) / 2) ((prodB b : Int) / 2)
      have y0 := sp_least (n := n + 2) (b := put b a .o) (by omega)
      have y1 := sp_least (n := n + 2) (b := put b a .i) (by omega)
      rw [least_put ha hb] at y0
      have t0 := rows0 b
      have t1' := rows0 (put b a .i)
      have w0 := sp_row (n := n + 1) (r := leastB b) (by rw [least_len]; omega)
      have w1 := sp_row (n := n + 1) (r := leastB (put b a .i)) (by rw [least_len]; omega)
      have hrow : ∀ r ∈ rowsB (put b a .o) ++ rowsB (put b a .i), r.length = b.length ∧ inB (put b a .o) r = decide (r.getD a 0 = 0) ∧ inB (put b a .i) r = decide (r.getD a 0 = 1) ∧ inB b r = true := fun r hr => by
        have hl := row_len b r (ok r hr)
        have hi := mem_rows b r hl
        rw [decide_eq_true (ok r hr)] at hi
        refine ⟨hl, ?_, ?_, hi.symm⟩
        · rw [inB_put hl hi.symm ha]; simp [Part.vs]
        · rw [inB_put hl hi.symm ha]; simp [Part.vs]
      have hrow := Fact.mk hrow
      have i0 := Fact.mk (fun r => sp_in (n := n + 2) (b := put b a .o) (r := r) (by omega))
      have i1 := Fact.mk (fun r => sp_in (n := n + 2) (b := put b a .i) (r := r) (by omega))
      have i2 := Fact.mk (fun r => sp_in (n := n + 2) (b := b) (r := r) (by omega))
      have haF := Fact.mk (And.intro ha h1)
      have kq := k.out t1 hm1 f2
      rename_i hrow'
      clear hrow' ok sp hperm hle hle2 hq hp hq0 hq1' hq2 hq1 pl0 pl1 hb k h0 h1
      generalize rowsB (put b a .o) ++ rowsB (put b a .i) = MM at *
      have lM : leaves ((MM.map rowD).map T.leaf) = some (MM.map rowD) := leaves_map ..
      generalize (MM.map rowD).map T.leaf = M at *
      have c1 := @fm_cons
      have c2 := @fm_nil
      have c3 := @fm_next
      walk_at "px*"
      clear c1 c2 c3 lM S A N L m0 m1 z0 z1 nu
      refine forM_inv (fun i ρ => ∃ c7 c8, slotOk (some c7) = true ∧ ρ = [some t1, some (T.leaf (boxD b)), some (T.lst (tInts (freeL b))), some (T.leaf (.int a)), some (T.lst [T.leaf (boxD (put b a .o)), T.leaf (boxD (put b a .i))]), none, some (T.leaf (boxD (put b a .i))), c7, c8, none]) ⟨none, none, rfl, rfl⟩ ?_ ?_
      · intro i d ρ hd hI
        obtain ⟨c7, c8, hc7, rfl⟩ := hI
        rw [List.getElem?_map] at hd
        cases hj : MM[i]? with
        | none => rw [hj] at hd; cases hd
        | some r =>
          rw [hj] at hd
          simp only [Option.map_some, Option.some.injEq] at hd
          subst hd
          obtain ⟨hl, h2, h3, h4⟩ := hrow.out r (List.mem_of_getElem? hj)
          have x0 := i0.out r (by rw [hl]; exact haF.out.2)
          have x1 := i1.out r (by rw [hl]; exact haF.out.2)
          have x2 := i2.out r (by rw [hl]; exact haF.out.2)
          rw [h2] at x0
          rw [h3] at x1
          rw [h4] at x2
          have q2 := idx_rowD (r := r) (a := a) (by rw [hl]; exact haF.out.1)
          have q4 := @sp_truth (n + 2) (decide (r.getD a 0 = 0)) (decide (r.getD a 0 = 0))
          have q5 := @sp_truth (n + 2) (decide (r.getD a 0 = 1)) (decide (r.getD a 0 = 1))
          have q6 := @sp_truth (n + 2) true true
          rw [beq_self_eq_true] at q4 q5 q6
          clear hl hj h2 h3 h4 m2 y0 y1 t0 t1' w0 w1 kq
          generalize r.getD a 0 = v at *
          walk_at "px*"
          exact ⟨_, _, rfl, rfl⟩
      · intro ρ hI
        obtain ⟨c7, c8, hc7, rfl⟩ := hI
        have m1 := sp_members (n := n + 2) (b := put b a .i) (by rw [put_len haF.out.1]; have := haF.out; omega) (by rw [put_len haF.out.1]; exact haF.out.2)
        walk_at "px*"
end L
namespace L
open PySem Pz PySem.W
local macro_rules | `(tactic| walk_at "px") => `(tactic| simp (implicitDefEqProofs := false) only [wE_non, wE_bl, wE_int, wE_str, wE_glob, vE_varR, q_kAt, q_kGo, wE_varM, wO_some, wO_none, mvK_leaf, mvK_scr, mvK_lst, mvK_dct, wE_bin, q_kBin, vBin2, q_kBin3, wE_neg, vNeg, q_kNeg2, asInt, 
  wE_cmp, q_kCmp, vCmp2, q_kCmp3, kB_at, wC_cmp, vTru, wC_var, wC_and, wC_call, wC_idx, wC_f1, wC_bin, wC_mt, wC_bl, is_nn, is_in, is_tn, is_sn, isnot_nn, isnot_in, isnot_tn, isnot_sn, truth_none, truth_bool, truth_int, truth_tup, truth_lst, Bool.not_true, Bool.not_false,  wC_or, wC_not, q_isAnd, q_isOr, q_isNot, wE_idx, q_kIdx, vIdx2, q_kIdx3, q_kIdx4, q_kIdx5, wE_tup, vTup, q_kTup2, wE_lst, q_kLst, 
  wEs_nil, wEs_non, wEs_bl, wEs_int, wEs_str, wEs_glob, wEs_tup, wEs_lst, wEs_dct, wEs_bin, wEs_neg, wEs_cmp, wEs_chain, wEs_and, wEs_or, wEs_not, wEs_ite, wEs_idx, wEs_slice, wEs_rev, wEs_call, wEs_call0, wEs_callK, wEs_f1, wEs_f2, wEs_isi, wEs_comp, wEs_pop, wEs_mt, wEs_gidx, wEs_frz, wEs_var, q_kVar, q_kVarT, wEsO_nil, wEsO_cons, q_kEsO, q_kEs, q_kEsT, wE_call0, q_kC0, wC_call0, wE_call, vCall, q_kCall2, wE_f1, vF1, wE_isi, wC_isi, vIsi, wE_ite, vIte, q_kIte2, wE_f2, q_kF2, vF22, wI_seq, vSeq, wI_rng1, wE_lrng, lrng_t, lrng_l, wEs_lrng, wI_rng2, kR20_at, kR21_at, wI_rng3, kR30_at, kR31_at, big_m1, vRng1, q_kRng2, wI_enum, vEnum, 
  q_kEnum2, wI_zip, q_kZip, vZip2, q_kZip3, q_kZip4, q_kZip5, q_kZip6, wE_comp, vComp, q_kComp2, q_kCompE, vompF_nop, q_kBd, q_kBc, q_kEnd2, vEnd, vYes, wE_chain, wC_chain, q_kCh, q_kCh2, vCh3, q_kChB, wE_dct, 
  q_kDct, wE_and, vVAnd, q_kVAnd3, q_kVAnd4, q_kVAnd2, wE_or, vVOr, q_kVOr3, q_kVOr4, wE_not, vVNot, q_kVNot2, wOp_nop, vOpt, q_kOpt2, wE_slice, q_kSl, q_kSl2, vSl3, q_kSl4, wE_rev, vRev, q_kRev2, wE_pop, 
  vPop, q_kPop2, q_kPop3, q_kPop4, wE_callK, q_kCallK, vCallK2, q_kCK2, q_kCK3, q_kCK4, q_kCK5, wF_ret, putBack, wQ_next, wQ_ret, cast0, kThn_next, kThn_ret, kThn_brk, kThn_cont, wT_nil, wT_retN, wT_brk, wT_cont, 
  wT_pass, wT_set, vSet, wT_asg, vAsg, q_kAsg2, wT_par, vPar, wT_ret, q_kRet, wT_expr, q_kExpr, wT_ite, q_kIf, wT_mut, vMut, q_kMu2, q_kMu3, q_kMu4, wT_ext, vExt, q_kExt2, kExt.seqL, wT_store, 
  q_kStore, vStore2, q_kSt3, q_kSt4, q_kSt5, vorF_at, q_kPut, wT_for, q_kFor, kFr, kTurn_next, kTurn_cont, kTurn_brk, kTurn_ret, kJ_next, kJ_ret, Pz.opnd, Pz.pureE, Pz.pureEs, Pz.stands, itemsS_tup, itemsS_list, itemsS_scr, itemsS_str, itemsS_lst, items_tup, items_list, items_scr, items_lst, Pz.leafOf, 
  leaves, isLeaf_leaf, isLeaf_lst, isLeaf_dct, isLeaf_scr, isLeaf_rng, free_leaf, free_lst, free_dct, free_scr, free_rng, flat_leaf, flat_lst, Pz.getSlot, Pz.setSlot, setSlots, Pz.bindIo, bindP_v, bindP_t, bindPs_nil, bindPs_cons, keyOf_str, keyOf_int, patVs, patsVs, wipeR_nil, wipeR_cons, 
  slotOk_none, slotOk_leaf, takeIt, takeOut, takeOuts, putIt, Pz.putIn, ioIt, ioOp, ioOf, restore, allBack, Pz.outsOf, O.map1, isNop, ioOps0, putIns0, Pz.isLst, Pz.isCon, stepsD, stepD, 
  onPath, isL, isC, mutT, extT, storeT_dct, sl_0, sl_1, sl_2, il_0, il_1, il_2, it_0, it_1, it_2, it_3, Option.isSome_some, List.isEmpty_nil, cmp_eqI, cmp_neI, cmp_ltI, cmp_gtI, cmp_leI, cmp_geI, bin_addI, bin_addT, bin_subI, bin_mulR, bin_mulL, bin_mulI, 
  bin_modI, bin_divL, Nat.reducePow, Int.reduceLT, Int.reduceEq, Int.reduceNe, Int.reduceLE, Int.reduceAdd, Int.reduceSub, Int.reduceMul, Int.reduceNeg, Int.reduceToNat, len_lst, len_tup, leaves_ints, 
  leaves_map, tup_lst, tInts_len, List.getElem?_cons_zero, List.getElem?_cons_succ, List.set_cons_zero, List.set_cons_succ, List.length_cons, List.zip_cons_cons, List.zip_nil_left, List.length_nil, List.length_map, List.map_cons, 
  List.map_nil, List.cons_append, List.nil_append, List.replicate, List.any_cons, List.any_nil, List.append_nil, Nat.sub_self, Nat.reduceSub, Nat.reduceAdd, Nat.reduceLeDiff, 
  Nat.reduceEqDiff, ↓reduceIte, ite_self, reduceCtorEq, ne_eq, not_false_eq_true, not_true_eq_false, true_and, and_true, false_and, and_false, true_or, or_true, false_or, or_false, 
  Bool.or_false, Bool.or_true, Bool.false_or, Bool.true_or, Bool.and_true, Bool.true_and, Bool.and_self, Bool.or_self, if_true, if_false, Pz.isTy, Pz.kdOf, isKd, szE, Nat.reduceLT, 
  Option.map_some, decide_true, decide_false, Bool.false_eq_true, List.mem_cons, List.not_mem_nil, Nat.lt_irrefl, Nat.le_refl, wOp_non, vompF_non, wOp_bl, vompF_bl, wOp_int, vompF_int, wOp_str, vompF_str, wOp_var, vompF_var, wOp_glob, vompF_glob, wOp_tup, vompF_tup, wOp_lst, vompF_lst, wOp_dct, vompF_dct, wOp_bin, vompF_bin, wOp_neg, vompF_neg, wOp_cmp, vompF_cmp, wOp_chain, vompF_chain, wOp_and, vompF_and, wOp_or, vompF_or, wOp_not, vompF_not, wOp_ite, vompF_ite, wOp_idx, vompF_idx, wOp_slice, vompF_slice, wOp_rev, vompF_rev, wOp_call, vompF_call, wOp_f1, vompF_f1, wOp_f2, vompF_f2, wOp_isi, vompF_isi, wOp_comp, vompF_comp, wOp_pop, vompF_pop, wOp_mt, vompF_mt, wOp_gidx, vompF_gidx, wOp_frz, vompF_frz, big62_of, int_int, abs_int, tInts_snoc, tStrs_snoc, tStrs_len, leaves_strs, Pz.isLst, onPath, permL])
local macro_rules | `(tactic| walk_at "px*") => `(tactic| simp (implicitDefEqProofs := false) only [wE_non, wE_bl, wE_int, wE_str, wE_glob, vE_varR, q_kAt, q_kGo, wE_varM, wO_some, wO_none, mvK_leaf, mvK_scr, mvK_lst, mvK_dct, wE_bin, q_kBin, vBin2, q_kBin3, wE_neg, vNeg, q_kNeg2, asInt, 
  wE_cmp, q_kCmp, vCmp2, q_kCmp3, kB_at, wC_cmp, vTru, wC_var, wC_and, wC_call, wC_idx, wC_f1, wC_bin, wC_mt, wC_bl, is_nn, is_in, is_tn, is_sn, isnot_nn, isnot_in, isnot_tn, isnot_sn, truth_none, truth_bool, truth_int, truth_tup, truth_lst, Bool.not_true, Bool.not_false,  wC_or, wC_not, q_isAnd, q_isOr, q_isNot, wE_idx, q_kIdx, vIdx2, q_kIdx3, q_kIdx4, q_kIdx5, wE_tup, vTup, q_kTup2, wE_lst, q_kLst, 
  wEs_nil, wEs_non, wEs_bl, wEs_int, wEs_str, wEs_glob, wEs_tup, wEs_lst, wEs_dct, wEs_bin, wEs_neg, wEs_cmp, wEs_chain, wEs_and, wEs_or, wEs_not, wEs_ite, wEs_idx, wEs_slice, wEs_rev, wEs_call, wEs_call0, wEs_callK, wEs_f1, wEs_f2, wEs_isi, wEs_comp, wEs_pop, wEs_mt, wEs_gidx, wEs_frz, wEs_var, q_kVar, q_kVarT, wEsO_nil, wEsO_cons, q_kEsO, q_kEs, q_kEsT, wE_call0, q_kC0, wC_call0, wE_call, vCall, q_kCall2, wE_f1, vF1, wE_isi, wC_isi, vIsi, wE_ite, vIte, q_kIte2, wE_f2, q_kF2, vF22, wI_seq, vSeq, wI_rng1, wE_lrng, lrng_t, lrng_l, wEs_lrng, wI_rng2, kR20_at, kR21_at, wI_rng3, kR30_at, kR31_at, big_m1, vRng1, q_kRng2, wI_enum, vEnum, 
  q_kEnum2, wI_zip, q_kZip, vZip2, q_kZip3, q_kZip4, q_kZip5, q_kZip6, wE_comp, vComp, q_kComp2, q_kCompE, vompF_nop, q_kBd, q_kBc, q_kEnd2, vEnd, vYes, wE_chain, wC_chain, q_kCh, q_kCh2, vCh3, q_kChB, wE_dct, 
  q_kDct, wE_and, vVAnd, q_kVAnd3, q_kVAnd4, q_kVAnd2, wE_or, vVOr, q_kVOr3, q_kVOr4, wE_not, vVNot, q_kVNot2, wOp_nop, vOpt, q_kOpt2, wE_slice, q_kSl, q_kSl2, vSl3, q_kSl4, wE_rev, vRev, q_kRev2, wE_pop, 
  vPop, q_kPop2, q_kPop3, q_kPop4, wE_callK, q_kCallK, vCallK2, q_kCK2, q_kCK3, q_kCK4, q_kCK5, wF_ret, putBack, wQ_next, wQ_ret, cast0, kThn_next, kThn_ret, kThn_brk, kThn_cont, wT_nil, wT_retN, wT_brk, wT_cont, 
  wT_pass, wT_set, vSet, wT_asg, vAsg, q_kAsg2, wT_par, vPar, wT_ret, q_kRet, wT_expr, q_kExpr, wT_ite, q_kIf, wT_mut, vMut, q_kMu2, q_kMu3, q_kMu4, wT_ext, vExt, q_kExt2, kExt.seqL, wT_store, 
  q_kStore, vStore2, q_kSt3, q_kSt4, q_kSt5, vorF_at, q_kPut, wT_for, q_kFor, kFr, kTurn_next, kTurn_cont, kTurn_brk, kTurn_ret, kJ_next, kJ_ret, Pz.opnd, Pz.pureE, Pz.pureEs, Pz.stands, itemsS_tup, itemsS_list, itemsS_scr, itemsS_str, itemsS_lst, items_tup, items_list, items_scr, items_lst, Pz.leafOf, 
  leaves, isLeaf_leaf, isLeaf_lst, isLeaf_dct, isLeaf_scr, isLeaf_rng, free_leaf, free_lst, free_dct, free_scr, free_rng, flat_leaf, flat_lst, Pz.getSlot, Pz.setSlot, setSlots, Pz.bindIo, bindP_v, bindP_t, bindPs_nil, bindPs_cons, keyOf_str, keyOf_int, patVs, patsVs, wipeR_nil, wipeR_cons, 
  slotOk_none, slotOk_leaf, takeIt, takeOut, takeOuts, putIt, Pz.putIn, ioIt, ioOp, ioOf, restore, allBack, Pz.outsOf, O.map1, isNop, ioOps0, putIns0, Pz.isLst, Pz.isCon, stepsD, stepD, 
  onPath, isL, isC, mutT, extT, storeT_dct, sl_0, sl_1, sl_2, il_0, il_1, il_2, it_0, it_1, it_2, it_3, Option.isSome_some, List.isEmpty_nil, cmp_eqI, cmp_neI, cmp_ltI, cmp_gtI, cmp_leI, cmp_geI, bin_addI, bin_addT, bin_subI, bin_mulR, bin_mulL, bin_mulI, 
  bin_modI, bin_divL, Nat.reducePow, Int.reduceLT, Int.reduceEq, Int.reduceNe, Int.reduceLE, Int.reduceAdd, Int.reduceSub, Int.reduceMul, Int.reduceNeg, Int.reduceToNat, len_lst, len_tup, leaves_ints, 
  leaves_map, tup_lst, tInts_len, List.getElem?_cons_zero, List.getElem?_cons_succ, List.set_cons_zero, List.set_cons_succ, List.length_cons, List.zip_cons_cons, List.zip_nil_left, List.length_nil, List.length_map, List.map_cons, 
  List.map_nil, List.cons_append, List.nil_append, List.replicate, List.any_cons, List.any_nil, List.append_nil, Nat.sub_self, Nat.reduceSub, Nat.reduceAdd, Nat.reduceLeDiff, 
  Nat.reduceEqDiff, ↓reduceIte, ite_self, reduceCtorEq, ne_eq, not_false_eq_true, not_true_eq_false, true_and, and_true, false_and, and_false, true_or, or_true, false_or, or_false, 
  Bool.or_false, Bool.or_true, Bool.false_or, Bool.true_or, Bool.and_true, Bool.true_and, Bool.and_self, Bool.or_self, if_true, if_false, Pz.isTy, Pz.kdOf, isKd, szE, Nat.reduceLT, 
  Option.map_some, decide_true, decide_false, Bool.false_eq_true, List.mem_cons, List.not_mem_nil, Nat.lt_irrefl, Nat.le_refl, wOp_non, vompF_non, wOp_bl, vompF_bl, wOp_int, vompF_int, wOp_str, vompF_str, wOp_var, vompF_var, wOp_glob, vompF_glob, wOp_tup, vompF_tup, wOp_lst, vompF_lst, wOp_dct, vompF_dct, wOp_bin, vompF_bin, wOp_neg, vompF_neg, wOp_cmp, vompF_cmp, wOp_chain, vompF_chain, wOp_and, vompF_and, wOp_or, vompF_or, wOp_not, vompF_not, wOp_ite, vompF_ite, wOp_idx, vompF_idx, wOp_slice, vompF_slice, wOp_rev, vompF_rev, wOp_call, vompF_call, wOp_f1, vompF_f1, wOp_f2, vompF_f2, wOp_isi, vompF_isi, wOp_comp, vompF_comp, wOp_pop, vompF_pop, wOp_mt, vompF_mt, wOp_gidx, vompF_gidx, wOp_frz, vompF_frz, big62_of, int_int, abs_int, tInts_snoc, tStrs_snoc, tStrs_len, leaves_strs, Pz.isLst, onPath, permL, *])
/-! ### what two boxes share -/
def mt (p q : Part) : Part := match p with | .b => q | p => p
def inter : Box → Box → List (List Int)
  | p :: b, q :: c => (p.vs.filter fun v => decide (v ∈ q.vs)) :: inter b c
  | _, _ => []
def meet : Box → Box → Box
  | p :: b, q :: c => mt p q :: meet b c
  | _, _ => []
theorem inter_len : ∀ {b c : Box}, c.length = b.length → (inter b c).length = b.length
  | [], [], _ => rfl
  | p :: b, q :: c, h => by simp only [inter, List.length_cons, inter_len (b := b) (c := c) (by simpa using h)]
  | [], _ :: _, h => by cases h
  | _ :: _, [], h => by cases h
theorem meet_len : ∀ {b c : Box}, c.length = b.length → (meet b c).length = b.length
  | [], [], _ => rfl
  | p :: b, q :: c, h => by simp only [meet, List.length_cons, meet_len (b := b) (c := c) (by simpa using h)]
  | [], _ :: _, h => by cases h
  | _ :: _, [], h => by cases h
theorem inter_get : ∀ {b c : Box} {j : Nat} (h1 : j < b.length) (h2 : j < c.length), (inter b c)[j]? = some ((b[j]).vs.filter fun v => decide (v ∈ (c[j]).vs))
  | p :: b, q :: c, 0, _, _ => rfl
  | p :: b, q :: c, j + 1, h1, h2 => by
    show (inter b c)[j]? = _
    exact inter_get (b := b) (c := c) (by simpa using h1) (by simpa using h2)
  | [], _, _, h, _ => by cases h
  | _ :: _, [], _, _, h => by cases h
theorem meet_vs : ∀ {b c : Box}, c.length = b.length → [] ∉ inter b c → boxD (meet b c) = .tuple ((inter b c).map rowD) := by
  intro b c h hn
  unfold boxD
  congr 1
  induction b generalizing c with
  | nil => cases c <;> rfl
  | cons p b ih =>
    cases c with
    | nil => cases h
    | cons q c =>
      simp only [inter, List.mem_cons, not_or] at hn
      simp only [meet, inter, List.map_cons]
      rw [ih (by simpa using h) hn.2]
      congr 1
      have h1 := hn.1
      cases p <;> cases q <;> simp [Part.vs, mt, partD, rowD] at h1 ⊢
theorem filt_cons (f : List Int → Bool) (v : Int) (rs : List (List Int)) : (rs.map fun t => v :: t).filter f = (rs.filter fun t => f (v :: t)).map fun t => v :: t := by
  rw [List.filter_map]; rfl
theorem filt_meet : ∀ {b c : Box}, c.length = b.length → [] ∉ inter b c → (rowsB b).filter (inB c) = rowsB (meet b c)
  | [], [], _, _ => rfl
  | p :: b, q :: c, h, hn => by
    simp only [inter, List.mem_cons, not_or] at hn
    have ih := filt_meet (b := b) (c := c) (by simpa using h) hn.2
    have h1 := hn.1
    have e0 : ∀ v : Int, (fun t => inB (q :: c) (v :: t)) = fun t => decide (v ∈ q.vs) && inB c t := fun v => rfl
    cases p <;> cases q <;> simp only [rowsB, Part.vs, meet, mt, List.flatMap_cons, List.flatMap_nil, List.append_nil, List.filter_append, filt_cons, e0] <;> simp [Part.vs, ih] at h1 ⊢
  | [], _ :: _, h, _ => by cases h
  | _ :: _, [], h, _ => by cases h
theorem filt_none : ∀ {b c : Box}, c.length = b.length → [] ∈ inter b c → (rowsB b).filter (inB c) = [] ∧ inB c (leastB b) = false
  | [], [], _, h => by cases h
  | p :: b, q :: c, h, hn => by
    have hl : c.length = b.length := by simpa using h
    simp only [inter, List.mem_cons] at hn
    have e0 : ∀ v : Int, (fun t => inB (q :: c) (v :: t)) = fun t => decide (v ∈ q.vs) && inB c t := fun v => rfl
    rcases hn with h1 | hn
    · cases p <;> cases q <;> simp [Part.vs] at h1 <;>
        (refine ⟨?_, ?_⟩
         · simp only [rowsB, Part.vs, List.flatMap_cons, List.flatMap_nil, List.append_nil, filt_cons, e0]
           simp
         · simp [leastB, Part.vs, inB])
    · obtain ⟨i1, i2⟩ := filt_none hl hn
      refine ⟨?_, ?_⟩
      · have z : ∀ x : Bool, (rowsB b).filter (fun t => x && inB c t) = [] := fun x => by cases x <;> simp [i1]
        cases p <;> simp only [rowsB, Part.vs, List.flatMap_cons, List.flatMap_nil, List.append_nil, List.filter_append, filt_cons, e0, z, List.map_nil]
      · show (decide (_ ∈ q.vs) && inB c (leastB b)) = false
        rw [i2, Bool.and_false]
  | [], _ :: _, h, _ => by cases h
  | _ :: _, [], h, _ => by cases h
theorem filt_mem {b c : Box} (h : c.length = b.length) : (rowsB b).filter (fun r => decide (r ∈ rowsB c)) = (rowsB b).filter (inB c) := by
  refine List.filter_congr fun r hr => ?_
  exact mem_rows c r (by rw [h]; exact row_len b r hr)
theorem inter_list {b c : Box} (h : c.length = b.length) : (List.range b.length).map (fun j => T.leaf (rowD ((b.getD j .o).vs.filter fun v => decide (v ∈ (c.getD j .o).vs)))) = ((inter b c).map rowD).map .leaf := by
  apply List.ext_getElem?
  intro j
  rw [List.getElem?_map, List.getElem?_map, List.getElem?_map]
  by_cases hj : j < b.length
  · rw [List.getElem?_range hj, inter_get hj (by omega)]
    simp only [Option.map_some, List.getD_eq_getElem?_getD]
    rw [List.getElem?_eq_getElem hj, List.getElem?_eq_getElem (by omega : j < c.length)]
    rfl
  · rw [List.getElem?_eq_none (by rw [List.length_range]; omega), List.getElem?_eq_none (by rw [inter_len h]; omega)]; rfl
theorem last_rows (b : Box) : ∃ i r, rowsB b = i ++ [r] ∧ r ∈ rowsB b := by
  obtain ⟨s, hs⟩ := rows_head b
  rcases List.eq_nil_or_concat (rowsB b) with h | ⟨i, r, h⟩
  · rw [h] at hs; cases hs
  · rw [List.concat_eq_append] at h
    exact ⟨i, r, h, by rw [h]; simp⟩
end L
namespace L
open PySem Pz PySem.W
local macro_rules | `(tactic| walk_at "px") => `(tactic| simp (implicitDefEqProofs := false) only [wE_non, wE_bl, wE_int, wE_str, wE_glob, vE_varR, q_kAt, q_kGo, wE_varM, wO_some, wO_none, mvK_leaf, mvK_scr, mvK_lst, mvK_dct, wE_bin, q_kBin, vBin2, q_kBin3, wE_neg, vNeg, q_kNeg2, asInt, 
  wE_cmp, q_kCmp, vCmp2, q_kCmp3, kB_at, wC_cmp, vTru, wC_var, wC_and, wC_call, wC_idx, wC_f1, wC_bin, wC_mt, wC_bl, is_nn, is_in, is_tn, is_sn, isnot_nn, isnot_in, isnot_tn, isnot_sn, truth_none, truth_bool, truth_int, truth_tup, truth_lst, Bool.not_true, Bool.not_false,  wC_or, wC_not, q_isAnd, q_isOr, q_isNot, wE_idx, q_kIdx, vIdx2, q_kIdx3, q_kIdx4, q_kIdx5, wE_tup, vTup, q_kTup2, wE_lst, q_kLst, 
  wEs_nil, wEs_non, wEs_bl, wEs_int, wEs_str, wEs_glob, wEs_tup, wEs_lst, wEs_dct, wEs_bin, wEs_neg, wEs_cmp, wEs_chain, wEs_and, wEs_or, wEs_not, wEs_ite, wEs_idx, wEs_slice, wEs_rev, wEs_call, wEs_call0, wEs_callK, wEs_f1, wEs_f2, wEs_isi, wEs_comp, wEs_pop, wEs_mt, wEs_gidx, wEs_frz, wEs_var, q_kVar, q_kVarT, wEsO_nil, wEsO_cons, q_kEsO, q_kEs, q_kEsT, wE_call0, q_kC0, wC_call0, wE_call, vCall, q_kCall2, wE_f1, vF1, wE_isi, wC_isi, vIsi, wE_ite, vIte, q_kIte2, wE_f2, q_kF2, vF22, wI_seq, vSeq, wI_rng1, wE_lrng, lrng_t, lrng_l, wEs_lrng, wI_rng2, kR20_at, kR21_at, wI_rng3, kR30_at, kR31_at, big_m1, vRng1, q_kRng2, wI_enum, vEnum, 
  q_kEnum2, wI_zip, q_kZip, vZip2, q_kZip3, q_kZip4, q_kZip5, q_kZip6, wE_comp, vComp, q_kComp2, q_kCompE, vompF_nop, q_kBd, q_kBc, q_kEnd2, vEnd, vYes, wE_chain, wC_chain, q_kCh, q_kCh2, vCh3, q_kChB, wE_dct, 
  q_kDct, wE_and, vVAnd, q_kVAnd3, q_kVAnd4, q_kVAnd2, wE_or, vVOr, q_kVOr3, q_kVOr4, wE_not, vVNot, q_kVNot2, wOp_nop, vOpt, q_kOpt2, wE_slice, q_kSl, q_kSl2, vSl3, q_kSl4, wE_rev, vRev, q_kRev2, wE_pop, 
  vPop, q_kPop2, q_kPop3, q_kPop4, wE_callK, q_kCallK, vCallK2, q_kCK2, q_kCK3, q_kCK4, q_kCK5, wF_ret, putBack, wQ_next, wQ_ret, cast0, kThn_next, kThn_ret, kThn_brk, kThn_cont, wT_nil, wT_retN, wT_brk, wT_cont, 
  wT_pass, wT_set, vSet, wT_asg, vAsg, q_kAsg2, wT_par, vPar, wT_ret, q_kRet, wT_expr, q_kExpr, wT_ite, q_kIf, wT_mut, vMut, q_kMu2, q_kMu3, q_kMu4, wT_ext, vExt, q_kExt2, kExt.seqL, wT_store, 
  q_kStore, vStore2, q_kSt3, q_kSt4, q_kSt5, vorF_at, q_kPut, wT_for, q_kFor, kFr, kTurn_next, kTurn_cont, kTurn_brk, kTurn_ret, kJ_next, kJ_ret, Pz.opnd, Pz.pureE, Pz.pureEs, Pz.stands, itemsS_tup, itemsS_list, itemsS_scr, itemsS_str, itemsS_lst, items_tup, items_list, items_scr, items_lst, Pz.leafOf, 
  leaves, isLeaf_leaf, isLeaf_lst, isLeaf_dct, isLeaf_scr, isLeaf_rng, free_leaf, free_lst, free_dct, free_scr, free_rng, flat_leaf, flat_lst, Pz.getSlot, Pz.setSlot, setSlots, Pz.bindIo, bindP_v, bindP_t, bindPs_nil, bindPs_cons, keyOf_str, keyOf_int, patVs, patsVs, wipeR_nil, wipeR_cons, 
  slotOk_none, slotOk_leaf, takeIt, takeOut, takeOuts, putIt, Pz.putIn, ioIt, ioOp, ioOf, restore, allBack, Pz.outsOf, O.map1, isNop, ioOps0, putIns0, Pz.isLst, Pz.isCon, stepsD, stepD, 
  onPath, isL, isC, mutT, extT, storeT_dct, sl_0, sl_1, sl_2, il_0, il_1, il_2, it_0, it_1, it_2, it_3, Option.isSome_some, List.isEmpty_nil, cmp_eqI, cmp_neI, cmp_ltI, cmp_gtI, cmp_leI, cmp_geI, bin_addI, bin_addT, bin_subI, bin_mulR, bin_mulL, bin_mulI, 
  bin_modI, bin_divL, Nat.reducePow, Int.reduceLT, Int.reduceEq, Int.reduceNe, Int.reduceLE, Int.reduceAdd, Int.reduceSub, Int.reduceMul, Int.reduceNeg, Int.reduceToNat, len_lst, len_tup, leaves_ints, 
  leaves_map, tup_lst, tInts_len, List.getElem?_cons_zero, List.getElem?_cons_succ, List.set_cons_zero, List.set_cons_succ, List.length_cons, List.zip_cons_cons, List.zip_nil_left, List.length_nil, List.length_map, List.map_cons, 
  List.map_nil, List.cons_append, List.nil_append, List.replicate, List.any_cons, List.any_nil, List.append_nil, Nat.sub_self, Nat.reduceSub, Nat.reduceAdd, Nat.reduceLeDiff, 
  Nat.reduceEqDiff, ↓reduceIte, ite_self, reduceCtorEq, ne_eq, not_false_eq_true, not_true_eq_false, true_and, and_true, false_and, and_false, true_or, or_true, false_or, or_false, 
  Bool.or_false, Bool.or_true, Bool.false_or, Bool.true_or, Bool.and_true, Bool.true_and, Bool.and_self, Bool.or_self, if_true, if_false, Pz.isTy, Pz.kdOf, isKd, szE, Nat.reduceLT, 
  Option.map_some, decide_true, decide_false, Bool.false_eq_true, List.mem_cons, List.not_mem_nil, Nat.lt_irrefl, Nat.le_refl, wOp_non, vompF_non, wOp_bl, vompF_bl, wOp_int, vompF_int, wOp_str, vompF_str, wOp_var, vompF_var, wOp_glob, vompF_glob, wOp_tup, vompF_tup, wOp_lst, vompF_lst, wOp_dct, vompF_dct, wOp_bin, vompF_bin, wOp_neg, vompF_neg, wOp_cmp, vompF_cmp, wOp_chain, vompF_chain, wOp_and, vompF_and, wOp_or, vompF_or, wOp_not, vompF_not, wOp_ite, vompF_ite, wOp_idx, vompF_idx, wOp_slice, vompF_slice, wOp_rev, vompF_rev, wOp_call, vompF_call, wOp_f1, vompF_f1, wOp_f2, vompF_f2, wOp_isi, vompF_isi, wOp_comp, vompF_comp, wOp_pop, vompF_pop, wOp_mt, vompF_mt, wOp_gidx, vompF_gidx, wOp_frz, vompF_frz, big62_of, int_int, abs_int, tInts_snoc, tStrs_snoc, tStrs_len, leaves_strs, Pz.isLst, onPath, permL])
local macro_rules | `(tactic| walk_at "px*") => `(tactic| simp (implicitDefEqProofs := false) only [wE_non, wE_bl, wE_int, wE_str, wE_glob, vE_varR, q_kAt, q_kGo, wE_varM, wO_some, wO_none, mvK_leaf, mvK_scr, mvK_lst, mvK_dct, wE_bin, q_kBin, vBin2, q_kBin3, wE_neg, vNeg, q_kNeg2, asInt, 
  wE_cmp, q_kCmp, vCmp2, q_kCmp3, kB_at, wC_cmp, vTru, wC_var, wC_and, wC_call, wC_idx, wC_f1, wC_bin, wC_mt, wC_bl, is_nn, is_in, is_tn, is_sn, isnot_nn, isnot_in, isnot_tn, isnot_sn, truth_none, truth_bool, truth_int, truth_tup, truth_lst, Bool.not_true, Bool.not_false,  wC_or, wC_not, q_isAnd, q_isOr, q_isNot, wE_idx, q_kIdx, vIdx2, q_kIdx3, q_kIdx4, q_kIdx5, wE_tup, vTup, q_kTup2, wE_lst, q_kLst, 
  wEs_nil, wEs_non, wEs_bl, wEs_int, wEs_str, wEs_glob, wEs_tup, wEs_lst, wEs_dct, wEs_bin, wEs_neg, wEs_cmp, wEs_chain, wEs_and, wEs_or, wEs_not, wEs_ite, wEs_idx, wEs_slice, wEs_rev, wEs_call, wEs_call0, wEs_callK, wEs_f1, wEs_f2, wEs_isi, wEs_comp, wEs_pop, wEs_mt, wEs_gidx, wEs_frz, wEs_var, q_kVar, q_kVarT, wEsO_nil, wEsO_cons, q_kEsO, q_kEs, q_kEsT, wE_call0, q_kC0, wC_call0, wE_call, vCall, q_kCall2, wE_f1, vF1, wE_isi, wC_isi, vIsi, wE_ite, vIte, q_kIte2, wE_f2, q_kF2, vF22, wI_seq, vSeq, wI_rng1, wE_lrng, lrng_t, lrng_l, wEs_lrng, wI_rng2, kR20_at, kR21_at, wI_rng3, kR30_at, kR31_at, big_m1, vRng1, q_kRng2, wI_enum, vEnum, 
  q_kEnum2, wI_zip, q_kZip, vZip2, q_kZip3, q_kZip4, q_kZip5, q_kZip6, wE_comp, vComp, q_kComp2, q_kCompE, vompF_nop, q_kBd, q_kBc, q_kEnd2, vEnd, vYes, wE_chain, wC_chain, q_kCh, q_kCh2, vCh3, q_kChB, wE_dct, 
  q_kDct, wE_and, vVAnd, q_kVAnd3, q_kVAnd4, q_kVAnd2, wE_or, vVOr, q_kVOr3, q_kVOr4, wE_not, vVNot, q_kVNot2, wOp_nop, vOpt, q_kOpt2, wE_slice, q_kSl, q_kSl2, vSl3, q_kSl4, wE_rev, vRev, q_kRev2, wE_pop, 
  vPop, q_kPop2, q_kPop3, q_kPop4, wE_callK, q_kCallK, vCallK2, q_kCK2, q_kCK3, q_kCK4, q_kCK5, wF_ret, putBack, wQ_next, wQ_ret, cast0, kThn_next, kThn_ret, kThn_brk, kThn_cont, wT_nil, wT_retN, wT_brk, wT_cont, 
  wT_pass, wT_set, vSet, wT_asg, vAsg, q_kAsg2, wT_par, vPar, wT_ret, q_kRet, wT_expr, q_kExpr, wT_ite, q_kIf, wT_mut, vMut, q_kMu2, q_kMu3, q_kMu4, wT_ext, vExt, q_kExt2, kExt.seqL, wT_store, 
  q_kStore, vStore2, q_kSt3, q_kSt4, q_kSt5, vorF_at, q_kPut, wT_for, q_kFor, kFr, kTurn_next, kTurn_cont, kTurn_brk, kTurn_ret, kJ_next, kJ_ret, Pz.opnd, Pz.pureE, Pz.pureEs, Pz.stands, itemsS_tup, itemsS_list, itemsS_scr, itemsS_str, itemsS_lst, items_tup, items_list, items_scr, items_lst, Pz.leafOf, 
  leaves, isLeaf_leaf, isLeaf_lst, isLeaf_dct, isLeaf_scr, isLeaf_rng, free_leaf, free_lst, free_dct, free_scr, free_rng, flat_leaf, flat_lst, Pz.getSlot, Pz.setSlot, setSlots, Pz.bindIo, bindP_v, bindP_t, bindPs_nil, bindPs_cons, keyOf_str, keyOf_int, patVs, patsVs, wipeR_nil, wipeR_cons, 
  slotOk_none, slotOk_leaf, takeIt, takeOut, takeOuts, putIt, Pz.putIn, ioIt, ioOp, ioOf, restore, allBack, Pz.outsOf, O.map1, isNop, ioOps0, putIns0, Pz.isLst, Pz.isCon, stepsD, stepD, 
  onPath, isL, isC, mutT, extT, storeT_dct, sl_0, sl_1, sl_2, il_0, il_1, il_2, it_0, it_1, it_2, it_3, Option.isSome_some, List.isEmpty_nil, cmp_eqI, cmp_neI, cmp_ltI, cmp_gtI, cmp_leI, cmp_geI, bin_addI, bin_addT, bin_subI, bin_mulR, bin_mulL, bin_mulI, 
  bin_modI, bin_divL, Nat.reducePow, Int.reduceLT, Int.reduceEq, Int.reduceNe, Int.reduceLE, Int.reduceAdd, Int.reduceSub, Int.reduceMul, Int.reduceNeg, Int.reduceToNat, len_lst, len_tup, leaves_ints, 
  leaves_map, tup_lst, tInts_len, List.getElem?_cons_zero, List.getElem?_cons_succ, List.set_cons_zero, List.set_cons_succ, List.length_cons, List.zip_cons_cons, List.zip_nil_left, List.length_nil, List.length_map, List.map_cons, 
  List.map_nil, List.cons_append, List.nil_append, List.replicate, List.any_cons, List.any_nil, List.append_nil, Nat.sub_self, Nat.reduceSub, Nat.reduceAdd, Nat.reduceLeDiff, 
  Nat.reduceEqDiff, ↓reduceIte, ite_self, reduceCtorEq, ne_eq, not_false_eq_true, not_true_eq_false, true_and, and_true, false_and, and_false, true_or, or_true, false_or, or_false, 
  Bool.or_false, Bool.or_true, Bool.false_or, Bool.true_or, Bool.and_true, Bool.true_and, Bool.and_self, Bool.or_self, if_true, if_false, Pz.isTy, Pz.kdOf, isKd, szE, Nat.reduceLT, 
  Option.map_some, decide_true, decide_false, Bool.false_eq_true, List.mem_cons, List.not_mem_nil, Nat.lt_irrefl, Nat.le_refl, wOp_non, vompF_non, wOp_bl, vompF_bl, wOp_int, vompF_int, wOp_str, vompF_str, wOp_var, vompF_var, wOp_glob, vompF_glob, wOp_tup, vompF_tup, wOp_lst, vompF_lst, wOp_dct, vompF_dct, wOp_bin, vompF_bin, wOp_neg, vompF_neg, wOp_cmp, vompF_cmp, wOp_chain, vompF_chain, wOp_and, vompF_and, wOp_or, vompF_or, wOp_not, vompF_not, wOp_ite, vompF_ite, wOp_idx, vompF_idx, wOp_slice, vompF_slice, wOp_rev, vompF_rev, wOp_call, vompF_call, wOp_f1, vompF_f1, wOp_f2, vompF_f2, wOp_isi, vompF_isi, wOp_comp, vompF_comp, wOp_pop, vompF_pop, wOp_mt, vompF_mt, wOp_gidx, vompF_gidx, wOp_frz, vompF_frz, big62_of, int_int, abs_int, tInts_snoc, tStrs_snoc, tStrs_len, leaves_strs, Pz.isLst, onPath, permL, *])
theorem nil_in {rs : List (List Int)} : cmpOp .isin (.leaf (.tuple [])) (.lst ((rs.map rowD).map .leaf)) = some (decide ([] ∈ rs)) := in_rows (r := [])
theorem items_part {p : Part} : itemsS (.leaf (partD p)) = some (p.vs.map .int) := rfl
theorem leaf_rows (rs : List (List Int)) : (rs.map fun r => T.leaf (rowD r)) = (rs.map rowD).map .leaf := by rw [List.map_map]; rfl
theorem tup_part {xs : List Int} : fun1 .tuple (.lst (xs.map fun v => T.leaf (.int v))) = some (.leaf (rowD xs)) := by
  have : (xs.map fun v => T.leaf (.int v)) = (xs.map PyData.int).map .leaf := by rw [List.map_map]; rfl
  rw [this, tup_lst]; rfl
theorem wp_shared {n : Nat} {b : Box} {t : T} {Q : T → List (Option T) → Prop} (hm : Bas t) (h0 : 0 < b.length) (h1 : b.length ≤ 6) (k : ∀ t', Bas t' → t'.free = false → Q (.leaf (.bool true)) [some t', none]) :
    wF (run tbl.fn (n + 4) 16 [t, .leaf (boxD b)]) Q := by
  rw [wF_run (np := 2) (nv := 11) (body := b__law_shared) rfl rfl]
  unfold b__law_shared
  have f0 := bas_free hm
  have f1 := @mvK_of
  have e1 := @len_box b
  have k := Fact.mk k
  have g1 := rng_at (i := (b.length : Int)) (by omega) (by omega)
  walk_at "px*"
  refine wp_box hm h1 fun t1 c hm1 hc f2 => ?_
  walk_at "px*"
  refine compM_rng (fun j => T.leaf (rowD ((b.getD j .o).vs.filter fun v => decide (v ∈ (c.getD j .o).vs)))) (fun j hj => ?_) ?_
  · have hj' : j < b.length := by omega
    have i1 := idx_box hj'
    have i2 := idx_box (b := c) (a := j) (by omega)
    have gb : b.getD j .o = b[j] := by rw [List.getD_eq_getElem?_getD, List.getElem?_eq_getElem hj']; rfl
    have gc : c.getD j .o = c[j] := by rw [List.getD_eq_getElem?_getD, List.getElem?_eq_getElem (by omega : j < c.length)]; rfl
    rw [← gb] at i1
    rw [← gc] at i2
    generalize b.getD j .o = p at *
    generalize c.getD j .o = q at *
    have e2 := @items_part p
    clear gb gc hj hj' hc
    walk_at "px*"
    refine compM_filt (fun v => decide (v ∈ q.vs)) (fun v => T.leaf (.int v)) (fun v hv => ?_) ?_
    · have e3 := @in_part v q
      cases hb : decide (v ∈ q.vs) with
      | true =>
        rw [hb] at e3
        clear hb hv
        walk_at "px*"
        exact ⟨rfl, rfl⟩
      | false =>
        rw [hb] at e3
        clear hb hv
        walk_at "px*"
        exact ⟨rfl, rfl⟩
    · have e4 := @tup_part (p.vs.filter fun v => decide (v ∈ q.vs))
      have l1 : ((p.vs.filter fun v => decide (v ∈ q.vs)).map fun v => T.leaf (.int v)).length ≤ 16777216 := by
        rw [List.length_map]
        have := List.length_filter_le (fun v => decide (v ∈ q.vs)) p.vs
        have := part_len p
        omega
      generalize ((p.vs.filter fun v => decide (v ∈ q.vs)).map fun v => T.leaf (.int v)) = M at *
      walk_at "px*"
      exact ⟨rfl, rfl⟩
  · rw [Int.toNat_natCast, inter_list hc]
    have l1 : (((inter b c).map rowD).map T.leaf).length ≤ 16777216 := by rw [List.length_map, List.length_map, inter_len hc]; omega
    have m1 := sp_members (n := n + 2) h0 h1
    have lM : leaves (((rowsB b).map rowD).map T.leaf) = some ((rowsB b).map rowD) := leaves_map ..
    generalize hI : ((inter b c).map rowD).map T.leaf = I at *
    generalize hM : ((rowsB b).map rowD).map T.leaf = M at *
    have hcF := Fact.mk hc
    clear hc
    walk_at "px*"
    refine compM_filt (fun r => decide (r ∈ rowsB c)) (fun r => T.leaf (rowD r)) (fun r hr => ?_) ?_
    · have m2 := sp_members (n := n + 2) (b := c) (by rw [hcF.out]; exact h0) (by rw [hcF.out]; exact h1)
      have e3 := @in_rows r (rowsB c)
      clear hr lM m1
      generalize ((rowsB c).map rowD).map T.leaf = C at *
      cases hb : decide (r ∈ rowsB c) with
      | true =>
        rw [hb] at e3
        clear hb
        walk_at "px*"
        exact ⟨rfl, rfl⟩
      | false =>
        rw [hb] at e3
        clear hb
        walk_at "px*"
        exact ⟨rfl, rfl⟩
    · rw [leaf_rows, filt_mem hcF.out]
      have l2 : ((((rowsB b).filter (inB c)).map rowD).map T.leaf).length ≤ 16777216 := by
        rw [List.length_map, List.length_map]
        have h2 := List.length_filter_le (inB c) (rowsB b)
        have h3 := rowsB_len b
        have h4 := prodB_le b
        have h5 : 2 ^ b.length ≤ 2 ^ 6 := Nat.pow_le_pow_right (by omega) h1
        omega
      have ev := sp_every (n := n + 2) h0 h1
      have lE : leaves (((allR b.length).map rowD).map T.leaf) = some ((allR b.length).map rowD) := leaves_map ..
      generalize hB : (((rowsB b).filter (inB c)).map rowD).map T.leaf = B at *
      generalize ((allR b.length).map rowD).map T.leaf = EV at *
      have hA : ∀ r ∈ allR b.length, r.length = b.length := fun r hr => allR_len hr
      generalize allR b.length = AS at *
      have hA := Fact.mk hA
      rename_i hA'
      clear hA'
      walk_at "px*"
      have m2 := sp_members (n := n + 2) (b := c) (by rw [hcF.out]; exact h0) (by rw [hcF.out]; exact h1)
      have h1F := Fact.mk (And.intro h0 h1)
      have inb := Fact.mk (fun r => @in_rows r (rowsB b))
      rw [hM] at inb
      have inc := Fact.mk (fun r => @in_rows r (rowsB c))
      generalize hC : ((rowsB c).map rowD).map T.leaf = C at *
      clear lE lM h0
      refine forM_inv (fun i ρ => ∃ c6 c8, slotOk (some c6) = true ∧ ρ = [some t1, some (T.leaf (boxD b)), some (T.leaf (.int (b.length : Int))), some (T.leaf (boxD c)), some (T.lst I), some (T.lst B), c6, none, c8, none, none]) ⟨none, none, rfl, rfl⟩ ?_ ?_
      · intro i d ρ hd hJ
        obtain ⟨c6, c8, hc6, rfl⟩ := hJ
        rw [List.getElem?_map] at hd
        cases hj : AS[i]? with
        | none => rw [hj] at hd; cases hd
        | some r =>
          rw [hj] at hd
          simp only [Option.map_some, Option.some.injEq] at hd
          subst hd
          have hl := hA.out r (List.mem_of_getElem? hj)
          have x0 := sp_in (n := n + 2) (b := b) (r := r) h1F.out.2 (by rw [hl]; exact h1F.out.2)
          have x1 := sp_in (n := n + 2) (b := c) (r := r) (by rw [hcF.out]; exact h1F.out.2) (by rw [hl]; exact h1F.out.2)
          have y0 := inb.out r
          have y1 := inc.out r
          rw [mem_rows b r hl] at y0
          rw [mem_rows c r (by rw [hl, hcF.out])] at y1
          have q4 := @sp_truth (n + 2) (inB b r) (inB b r)
          have q5 := @sp_truth (n + 2) (inB c r) (inB c r)
          rw [beq_self_eq_true] at q4 q5
          clear hl hj hI hM hB hC
          generalize inB b r = bb at *
          generalize inB c r = bc at *
          walk_at "px*"
          exact ⟨_, _, rfl, rfl⟩
      · intro ρ hJ
        obtain ⟨c6, c8, hc6, rfl⟩ := hJ
        have z1 := @nil_in (inter b c)
        rw [hI] at z1
        have kq := k.out t1 hm1 f2
        have h1' := h1F.out
        clear k e1 g1 l1 l2 ev inb inc
        by_cases hn : [] ∈ inter b c
        · rw [decide_eq_true hn] at z1
          obtain ⟨f3, f4⟩ := filt_none hcF.out hn
          rw [f3] at hB
          have hB' : B = [] := hB.symm
          subst hB'
          have z2 := rows0 b
          rw [hM] at z2
          have z3 := sp_in (n := n + 2) (b := c) (r := leastB b) (by rw [hcF.out]; exact h1'.2) (by rw [least_len]; exact h1'.2)
          rw [f4] at z3
          have z4 := @sp_truth (n + 2) false false
          rw [beq_self_eq_true] at z4
          clear hn f3 f4 hB hM hI hC h1 h1'
          walk_at "px*"
        · rw [decide_eq_false hn] at z1
          have hml := meet_len hcF.out
          have z2 : fun1 .tuple (.lst I) = some (.leaf (boxD (meet b c))) := by
            rw [← hI, tup_lst, meet_vs hcF.out hn]
          rw [filt_meet hcF.out hn] at hB
          have z3 := sp_size (n := n + 2) (b := meet b c) (by omega)
          have z4 : fun1 .len (.lst B) = some (.leaf (.int (prodB (meet b c) : Int))) := by rw [← hB, len_rows, rowsB_len]
          have z5 := @sp_number (n + 2) (prodB (meet b c) : Int) (prodB (meet b c) : Int)
          have z6 := sp_least (n := n + 2) (b := meet b c) (by omega)
          have z7 := rows0 (meet b c)
          rw [hB] at z7
          have z8 := sp_row (n := n + 1) (r := leastB (meet b c)) (by rw [least_len]; omega)
          obtain ⟨ini, r, er, hr⟩ := last_rows (meet b c)
          have z9 : idxT (.lst B) (.int (-1)) = some (.leaf (rowD r)) := by
            rw [← hB, er, List.map_append, List.map_append]; exact idx_last
          have hrl := row_len _ r hr
          have z10 := sp_in (n := n + 2) (b := meet b c) (r := r) (by omega) (by omega)
          have hin := mem_rows (meet b c) r hrl
          rw [decide_eq_true hr] at hin
          rw [← hin] at z10
          have z11 := @sp_truth (n + 2) true true
          rw [beq_self_eq_true] at z11
          clear hn hB hM hI hC h1 h1' er hr hrl hin hml m1 m2
          walk_at "px*"
end L
namespace L
open PySem Pz PySem.W
local macro_rules | `(tactic| walk_at "px") => `(tactic| simp (implicitDefEqProofs := false) only [wE_non, wE_bl, wE_int, wE_str, wE_glob, vE_varR, q_kAt, q_kGo, wE_varM, wO_some, wO_none, mvK_leaf, mvK_scr, mvK_lst, mvK_dct, wE_bin, q_kBin, vBin2, q_kBin3, wE_neg, vNeg, q_kNeg2, asInt, 
  wE_cmp, q_kCmp, vCmp2, q_kCmp3, kB_at, wC_cmp, vTru, wC_var, wC_and, wC_call, wC_idx, wC_f1, wC_bin, wC_mt, wC_bl, is_nn, is_in, is_tn, is_sn, isnot_nn, isnot_in, isnot_tn, isnot_sn, truth_none, truth_bool, truth_int, truth_tup, truth_lst, Bool.not_true, Bool.not_false,  wC_or, wC_not, q_isAnd, q_isOr, q_isNot, wE_idx, q_kIdx, vIdx2, q_kIdx3, q_kIdx4, q_kIdx5, wE_tup, vTup, q_kTup2, wE_lst, q_kLst, 
  wEs_nil, wEs_non, wEs_bl, wEs_int, wEs_str, wEs_glob, wEs_tup, wEs_lst, wEs_dct, wEs_bin, wEs_neg, wEs_cmp, wEs_chain, wEs_and, wEs_or, wEs_not, wEs_ite, wEs_idx, wEs_slice, wEs_rev, wEs_call, wEs_call0, wEs_callK, wEs_f1, wEs_f2, wEs_isi, wEs_comp, wEs_pop, wEs_mt, wEs_gidx, wEs_frz, wEs_var, q_kVar, q_kVarT, wEsO_nil, wEsO_cons, q_kEsO, q_kEs, q_kEsT, wE_call0, q_kC0, wC_call0, wE_call, vCall, q_kCall2, wE_f1, vF1, wE_isi, wC_isi, vIsi, wE_ite, vIte, q_kIte2, wE_f2, q_kF2, vF22, wI_seq, vSeq, wI_rng1, wE_lrng, lrng_t, lrng_l, wEs_lrng, wI_rng2, kR20_at, kR21_at, wI_rng3, kR30_at, kR31_at, big_m1, vRng1, q_kRng2, wI_enum, vEnum, 
  q_kEnum2, wI_zip, q_kZip, vZip2, q_kZip3, q_kZip4, q_kZip5, q_kZip6, wE_comp, vComp, q_kComp2, q_kCompE, vompF_nop, q_kBd, q_kBc, q_kEnd2, vEnd, vYes, wE_chain, wC_chain, q_kCh, q_kCh2, vCh3, q_kChB, wE_dct, 
  q_kDct, wE_and, vVAnd, q_kVAnd3, q_kVAnd4, q_kVAnd2, wE_or, vVOr, q_kVOr3, q_kVOr4, wE_not, vVNot, q_kVNot2, wOp_nop, vOpt, q_kOpt2, wE_slice, q_kSl, q_kSl2, vSl3, q_kSl4, wE_rev, vRev, q_kRev2, wE_pop, 
  vPop, q_kPop2, q_kPop3, q_kPop4, wE_callK, q_kCallK, vCallK2, q_kCK2, q_kCK3, q_kCK4, q_kCK5, wF_ret, putBack, wQ_next, wQ_ret, cast0, kThn_next, kThn_ret, kThn_brk, kThn_cont, wT_nil, wT_retN, wT_brk, wT_cont, 
  wT_pass, wT_set, vSet, wT_asg, vAsg, q_kAsg2, wT_par, vPar, wT_ret, q_kRet, wT_expr, q_kExpr, wT_ite, q_kIf, wT_mut, vMut, q_kMu2, q_kMu3, q_kMu4, wT_ext, vExt, q_kExt2, kExt.seqL, wT_store, 
  q_kStore, vStore2, q_kSt3, q_kSt4, q_kSt5, vorF_at, q_kPut, wT_for, q_kFor, kFr, kTurn_next, kTurn_cont, kTurn_brk, kTurn_ret, kJ_next, kJ_ret, Pz.opnd, Pz.pureE, Pz.pureEs, Pz.stands, itemsS_tup, itemsS_list, itemsS_scr, itemsS_str, itemsS_lst, items_tup, items_list, items_scr, items_lst, Pz.leafOf, 
  leaves, isLeaf_leaf, isLeaf_lst, isLeaf_dct, isLeaf_scr, isLeaf_rng, free_leaf, free_lst, free_dct, free_scr, free_rng, flat_leaf, flat_lst, Pz.getSlot, Pz.setSlot, setSlots, Pz.bindIo, bindP_v, bindP_t, bindPs_nil, bindPs_cons, keyOf_str, keyOf_int, patVs, patsVs, wipeR_nil, wipeR_cons, 
  slotOk_none, slotOk_leaf, takeIt, takeOut, takeOuts, putIt, Pz.putIn, ioIt, ioOp, ioOf, restore, allBack, Pz.outsOf, O.map1, isNop, ioOps0, putIns0, Pz.isLst, Pz.isCon, stepsD, stepD, 
  onPath, isL, isC, mutT, extT, storeT_dct, sl_0, sl_1, sl_2, il_0, il_1, il_2, it_0, it_1, it_2, it_3, Option.isSome_some, List.isEmpty_nil, cmp_eqI, cmp_neI, cmp_ltI, cmp_gtI, cmp_leI, cmp_geI, bin_addI, bin_addT, bin_subI, bin_mulR, bin_mulL, bin_mulI, 
  bin_modI, bin_divL, Nat.reducePow, Int.reduceLT, Int.reduceEq, Int.reduceNe, Int.reduceLE, Int.reduceAdd, Int.reduceSub, Int.reduceMul, Int.reduceNeg, Int.reduceToNat, len_lst, len_tup, leaves_ints, 
  leaves_map, tup_lst, tInts_len, List.getElem?_cons_zero, List.getElem?_cons_succ, List.set_cons_zero, List.set_cons_succ, List.length_cons, List.zip_cons_cons, List.zip_nil_left, List.length_nil, List.length_map, List.map_cons, 
  List.map_nil, List.cons_append, List.nil_append, List.replicate, List.any_cons, List.any_nil, List.append_nil, Nat.sub_self, Nat.reduceSub, Nat.reduceAdd, Nat.reduceLeDiff, 
  Nat.reduceEqDiff, ↓reduceIte, ite_self, reduceCtorEq, ne_eq, not_false_eq_true, not_true_eq_false, true_and, and_true, false_and, and_false, true_or, or_true, false_or, or_false, 
  Bool.or_false, Bool.or_true, Bool.false_or, Bool.true_or, Bool.and_true, Bool.true_and, Bool.and_self, Bool.or_self, if_true, if_false, Pz.isTy, Pz.kdOf, isKd, szE, Nat.reduceLT, 
  Option.map_some, decide_true, decide_false, Bool.false_eq_true, List.mem_cons, List.not_mem_nil, Nat.lt_irrefl, Nat.le_refl, wOp_non, vompF_non, wOp_bl, vompF_bl, wOp_int, vompF_int, wOp_str, vompF_str, wOp_var, vompF_var, wOp_glob, vompF_glob, wOp_tup, vompF_tup, wOp_lst, vompF_lst, wOp_dct, vompF_dct, wOp_bin, vompF_bin, wOp_neg, vompF_neg, wOp_cmp, vompF_cmp, wOp_chain, vompF_chain, wOp_and, vompF_and, wOp_or, vompF_or, wOp_not, vompF_not, wOp_ite, vompF_ite, wOp_idx, vompF_idx, wOp_slice, vompF_slice, wOp_rev, vompF_rev, wOp_call, vompF_call, wOp_f1, vompF_f1, wOp_f2, vompF_f2, wOp_isi, vompF_isi, wOp_comp, vompF_comp, wOp_pop, vompF_pop, wOp_mt, vompF_mt, wOp_gidx, vompF_gidx, wOp_frz, vompF_frz, big62_of, int_int, abs_int, tInts_snoc, tStrs_snoc, tStrs_len, leaves_strs, Pz.isLst, onPath, permL])
local macro_rules | `(tactic| walk_at "px*") => `(tactic| simp (implicitDefEqProofs := false) only [wE_non, wE_bl, wE_int, wE_str, wE_glob, vE_varR, q_kAt, q_kGo, wE_varM, wO_some, wO_none, mvK_leaf, mvK_scr, mvK_lst, mvK_dct, wE_bin, q_kBin, vBin2, q_kBin3, wE_neg, vNeg, q_kNeg2, asInt, 
  wE_cmp, q_kCmp, vCmp2, q_kCmp3, kB_at, wC_cmp, vTru, wC_var, wC_and, wC_call, wC_idx, wC_f1, wC_bin, wC_mt, wC_bl, is_nn, is_in, is_tn, is_sn, isnot_nn, isnot_in, isnot_tn, isnot_sn, truth_none, truth_bool, truth_int, truth_tup, truth_lst, Bool.not_true, Bool.not_false,  wC_or, wC_not, q_isAnd, q_isOr, q_isNot, wE_idx, q_kIdx, vIdx2, q_kIdx3, q_kIdx4, q_kIdx5, wE_tup, vTup, q_kTup2, wE_lst, q_kLst, 
  wEs_nil, wEs_non, wEs_bl, wEs_int, wEs_str, wEs_glob, wEs_tup, wEs_lst, wEs_dct, wEs_bin, wEs_neg, wEs_cmp, wEs_chain, wEs_and, wEs_or, wEs_not, wEs_ite, wEs_idx, wEs_slice, wEs_rev, wEs_call, wEs_call0, wEs_callK, wEs_f1, wEs_f2, wEs_isi, wEs_comp, wEs_pop, wEs_mt, wEs_gidx, wEs_frz, wEs_var, q_kVar, q_kVarT, wEsO_nil, wEsO_cons, q_kEsO, q_kEs, q_kEsT, wE_call0, q_kC0, wC_call0, wE_call, vCall, q_kCall2, wE_f1, vF1, wE_isi, wC_isi, vIsi, wE_ite, vIte, q_kIte2, wE_f2, q_kF2, vF22, wI_seq, vSeq, wI_rng1, wE_lrng, lrng_t, lrng_l, wEs_lrng, wI_rng2, kR20_at, kR21_at, wI_rng3, kR30_at, kR31_at, big_m1, vRng1, q_kRng2, wI_enum, vEnum, 
  q_kEnum2, wI_zip, q_kZip, vZip2, q_kZip3, q_kZip4, q_kZip5, q_kZip6, wE_comp, vComp, q_kComp2, q_kCompE, vompF_nop, q_kBd, q_kBc, q_kEnd2, vEnd, vYes, wE_chain, wC_chain, q_kCh, q_kCh2, vCh3, q_kChB, wE_dct, 
  q_kDct, wE_and, vVAnd, q_kVAnd3, q_kVAnd4, q_kVAnd2, wE_or, vVOr, q_kVOr3, q_kVOr4, wE_not, vVNot, q_kVNot2, wOp_nop, vOpt, q_kOpt2, wE_slice, q_kSl, q_kSl2, vSl3, q_kSl4, wE_rev, vRev, q_kRev2, wE_pop, 
  vPop, q_kPop2, q_kPop3, q_kPop4, wE_callK, q_kCallK, vCallK2, q_kCK2, q_kCK3, q_kCK4, q_kCK5, wF_ret, putBack, wQ_next, wQ_ret, cast0, kThn_next, kThn_ret, kThn_brk, kThn_cont, wT_nil, wT_retN, wT_brk, wT_cont, 
  wT_pass, wT_set, vSet, wT_asg, vAsg, q_kAsg2, wT_par, vPar, wT_ret, q_kRet, wT_expr, q_kExpr, wT_ite, q_kIf, wT_mut, vMut, q_kMu2, q_kMu3, q_kMu4, wT_ext, vExt, q_kExt2, kExt.seqL, wT_store, 
  q_kStore, vStore2, q_kSt3, q_kSt4, q_kSt5, vorF_at, q_kPut, wT_for, q_kFor, kFr, kTurn_next, kTurn_cont, kTurn_brk, kTurn_ret, kJ_next, kJ_ret, Pz.opnd, Pz.pureE, Pz.pureEs, Pz.stands, itemsS_tup, itemsS_list, itemsS_scr, itemsS_str, itemsS_lst, items_tup, items_list, items_scr, items_lst, Pz.leafOf, 
  leaves, isLeaf_leaf, isLeaf_lst, isLeaf_dct, isLeaf_scr, isLeaf_rng, free_leaf, free_lst, free_dct, free_scr, free_rng, flat_leaf, flat_lst, Pz.getSlot, Pz.setSlot, setSlots, Pz.bindIo, bindP_v, bindP_t, bindPs_nil, bindPs_cons, keyOf_str, keyOf_int, patVs, patsVs, wipeR_nil, wipeR_cons, 
  slotOk_none, slotOk_leaf, takeIt, takeOut, takeOuts, putIt, Pz.putIn, ioIt, ioOp, ioOf, restore, allBack, Pz.outsOf, O.map1, isNop, ioOps0, putIns0, Pz.isLst, Pz.isCon, stepsD, stepD, 
  onPath, isL, isC, mutT, extT, storeT_dct, sl_0, sl_1, sl_2, il_0, il_1, il_2, it_0, it_1, it_2, it_3, Option.isSome_some, List.isEmpty_nil, cmp_eqI, cmp_neI, cmp_ltI, cmp_gtI, cmp_leI, cmp_geI, bin_addI, bin_addT, bin_subI, bin_mulR, bin_mulL, bin_mulI, 
  bin_modI, bin_divL, Nat.reducePow, Int.reduceLT, Int.reduceEq, Int.reduceNe, Int.reduceLE, Int.reduceAdd, Int.reduceSub, Int.reduceMul, Int.reduceNeg, Int.reduceToNat, len_lst, len_tup, leaves_ints, 
  leaves_map, tup_lst, tInts_len, List.getElem?_cons_zero, List.getElem?_cons_succ, List.set_cons_zero, List.set_cons_succ, List.length_cons, List.zip_cons_cons, List.zip_nil_left, List.length_nil, List.length_map, List.map_cons, 
  List.map_nil, List.cons_append, List.nil_append, List.replicate, List.any_cons, List.any_nil, List.append_nil, Nat.sub_self, Nat.reduceSub, Nat.reduceAdd, Nat.reduceLeDiff, 
  Nat.reduceEqDiff, ↓reduceIte, ite_self, reduceCtorEq, ne_eq, not_false_eq_true, not_true_eq_false, true_and, and_true, false_and, and_false, true_or, or_true, false_or, or_false, 
  Bool.or_false, Bool.or_true, Bool.false_or, Bool.true_or, Bool.and_true, Bool.true_and, Bool.and_self, Bool.or_self, if_true, if_false, Pz.isTy, Pz.kdOf, isKd, szE, Nat.reduceLT, 
  Option.map_some, decide_true, decide_false, Bool.false_eq_true, List.mem_cons, List.not_mem_nil, Nat.lt_irrefl, Nat.le_refl, wOp_non, vompF_non, wOp_bl, vompF_bl, wOp_int, vompF_int, wOp_str, vompF_str, wOp_var, vompF_var, wOp_glob, vompF_glob, wOp_tup, vompF_tup, wOp_lst, vompF_lst, wOp_dct, vompF_dct, wOp_bin, vompF_bin, wOp_neg, vompF_neg, wOp_cmp, vompF_cmp, wOp_chain, vompF_chain, wOp_and, vompF_and, wOp_or, vompF_or, wOp_not, vompF_not, wOp_ite, vompF_ite, wOp_idx, vompF_idx, wOp_slice, vompF_slice, wOp_rev, vompF_rev, wOp_call, vompF_call, wOp_f1, vompF_f1, wOp_f2, vompF_f2, wOp_isi, vompF_isi, wOp_comp, vompF_comp, wOp_pop, vompF_pop, wOp_mt, vompF_mt, wOp_gidx, vompF_gidx, wOp_frz, vompF_frz, big62_of, int_int, abs_int, tInts_snoc, tStrs_snoc, tStrs_len, leaves_strs, Pz.isLst, onPath, permL, *])
/-! ### halved -/
theorem rep_tup {d : D} {k : Nat} (h : k ≤ 1000) : binOp .mul (.leaf (.tuple [d])) (.leaf (.int (k : Int))) = some (.leaf (.tuple (List.replicate k d))) := by
  show (if Op.mul = Op.mul ∧ [d].length ≤ 1000 ∧ -1000 ≤ (k : Int) ∧ (k : Int) ≤ 1000 then some (T.leaf (.tuple (rep [d] (k : Int)))) else none) = _
  rw [if_pos ⟨rfl, by simp, by omega, by omega⟩]
  unfold rep
  rw [Int.toNat_natCast]
  congr 3
  clear h
  induction k with
  | zero => rfl
  | succ k ih => rw [List.replicate_succ, List.flatten_cons, ih, List.replicate_succ]; rfl
theorem box_rep {k : Nat} : PyData.tuple (List.replicate k (.tuple [.int 0, .int 1])) = boxD (List.replicate k .b) := by
  unfold boxD
  rw [List.map_replicate]; rfl
theorem row_rep {k : Nat} : PyData.tuple (List.replicate k (.int 0)) = rowD (leastB (List.replicate k .b)) := by
  unfold rowD leastB
  rw [List.map_replicate, List.map_replicate]; rfl
theorem prod_rep : ∀ (k : Nat), prodB (List.replicate k .b) = 2 ^ k
  | 0 => rfl
  | k + 1 => by
    rw [List.replicate_succ, prodB, prod_rep k, Nat.pow_succ, Nat.mul_comm]; rfl
theorem shl_1 {k : Nat} {x : Int} (hx : x = (k : Int)) (h : k ≤ 1000) : binOp .shl (.leaf (.int 1)) (.leaf (.int x)) = some (.leaf (.int ((2 ^ k : Nat) : Int))) := by
  subst hx
  have p : powOk 1 (k : Int) = true := by
    unfold powOk
    simp only [Bool.and_eq_true, decide_eq_true_eq, Nat.ble_eq]
    exact ⟨⟨by omega, by omega⟩, by decide⟩
  show (match (if powOk 1 (k : Int) = true then some ((1 : Int) * 2 ^ (k : Int).toNat) else none) with | some r => some (T.leaf (.int r)) | none => none) = _
  rw [if_pos p, Int.toNat_natCast, Int.one_mul]
  simp
theorem sp_full {n : Nat} {ds : List D} (h : ds.length ≤ 1000) : run tbl.fn (n + 1) 0 [.leaf (.tuple ds)] = .ret (.leaf (boxD (List.replicate ds.length .b))) [none] := by
  refine wF_eq ?_
  rw [wF_run (np := 1) (nv := 1) (body := b_full_box) rfl rfl]
  unfold b_full_box
  have e := rep_tup (d := .tuple [.int 0, .int 1]) h
  rw [box_rep] at e
  clear h
  walk_at "px*"
theorem n_ok : Okx 1 "n" := by constructor <;> decide +kernel
theorem pickT3 {a b c : D} {v : Int} (h0 : 0 ≤ v) (h1 : v < 3) : ∃ x, idxT (.leaf (.tuple [a, b, c])) (.int v) = some (.leaf x) := by
  have : v = 0 ∨ v = 1 ∨ v = 2 := by omega
  rcases this with rfl | rfl | rfl
  · exact ⟨a, rfl⟩
  · exact ⟨b, rfl⟩
  · exact ⟨c, rfl⟩
def SetI (k : Int) (j : Nat) (ts : List T) (ρ : Rho) : Prop := ∃ (t : T) (ds : List D), Bas t ∧ Fact (ds.length = j) ∧ ts = ds.map .leaf ∧ ρ = [some t, some (.leaf (.int k)), none, none, none, none, none, none, none, none, none, none]
/-- what the halving keeps -/
def Half (k j : Nat) (b : Box) (left : List Nat) : Prop := b.length = k ∧ left.Nodup ∧ left.length + j = k ∧ (∀ a ∈ left, b[a]? = some .b) ∧ prodB b = 2 ^ (k - j)
def castL (xs : List Nat) : List Int := xs.map fun (x : Nat) => (x : Int)
def HalfI (k : Nat) (s : D) (j : Nat) (ρ : Rho) : Prop := ∃ (t : T) (b : Box) (left : List Nat) (c5 c7 c8 c9 : Option T), Bas t ∧ Fact (Half k j b left) ∧ slotOk (some c5) = true ∧ ρ = [some t, some (.leaf (.int (k : Int))), some (.leaf s), some (.leaf (boxD b)), some (.lst (tInts (castL left))), c5, none, c7, c8, c9, none, none]
def pv (v : Int) : Part := if v = 0 then .o else .i
theorem half_next {k j : Nat} {b : Box} {left : List Nat} {i a : Nat} {v : Int} (h : Half k j b left) (hi : left[i]? = some a) : Half k (j + 1) (put b a (pv v)) (left.eraseIdx i) := by
  obtain ⟨h1, h2, h3, h4, h5⟩ := h
  obtain ⟨hl, rfl⟩ := List.getElem?_eq_some_iff.1 hi
  have ha := h4 _ (List.getElem_mem hl)
  obtain ⟨hb, eb⟩ := List.getElem?_eq_some_iff.1 ha
  refine ⟨by rw [put_len hb]; exact h1, h2.sublist (List.eraseIdx_sublist ..), by rw [List.length_eraseIdx_of_lt hl]; omega, fun x hx => ?_, ?_⟩
  · have hx' := List.mem_of_mem_eraseIdx hx
    have hne : x ≠ left[i] := fun e => by
      have p := get_erase_perm left i hl
      have nd := (p.nodup_iff).2 h2
      rw [List.nodup_cons] at nd
      exact nd.1 (e ▸ hx)
    have e := h4 x hx'
    unfold put
    obtain ⟨hx2, _⟩ := List.getElem?_eq_some_iff.1 e
    rw [List.append_assoc]
    rcases Nat.lt_or_gt_of_ne hne with c | c
    · rw [List.getElem?_append_left (by rw [List.length_take]; omega), List.getElem?_take_of_lt c]; exact e
    · rw [List.getElem?_append_right (by rw [List.length_take]; omega), List.length_take, Nat.min_eq_left (by omega), List.singleton_append]
      rw [show x - left[i] = (x - left[i] - 1) + 1 by omega, List.getElem?_cons_succ, List.getElem?_drop, show left[i] + 1 + (x - left[i] - 1) = x by omega]
      exact e
  · obtain ⟨q, _, hq, hp⟩ := prod_put hb
    rw [eb] at hq
    have hq : prodB b = 2 * q := hq
    have e2 : prodB (put b left[i] (pv v)) = q := by
      rw [hp]; unfold pv; split <;> exact Nat.one_mul q
    rw [e2]
    have e3 : 2 ^ (k - j) = 2 * 2 ^ (k - (j + 1)) := by
      rw [show k - j = (k - (j + 1)) + 1 by omega, Nat.pow_succ, Nat.mul_comm]
    omega
theorem inB_not : ∀ {b : Box} {r : List Int} {a : Nat}, r.length = b.length → (h : a < b.length) → r.getD a 0 ∉ (b[a]).vs → inB b r = false
  | p :: b, v :: r, 0, _, _, hn => by
    unfold inB
    have : decide (v ∈ p.vs) = false := decide_eq_false hn
    rw [this, Bool.false_and]
  | p :: b, v :: r, a + 1, hl, h, hn => by
    unfold inB
    rw [inB_not (b := b) (r := r) (a := a) (by simpa using hl) (by simpa using h) (by simpa using hn), Bool.and_false]
  | [], _, _, _, h, _ => by cases h
  | _ :: _, [], _, h, _, _ => by cases h
def goneR (b : Box) (a : Nat) (v : Int) : List Int := (List.range b.length).map fun i => if i = a then 1 - v else (b.getD i .o).vs.headD 0
theorem gone_out {b : Box} {a : Nat} {v : Int} (ha : a < b.length) (hv : v = 0 ∨ v = 1) : inB (put b a (pv v)) (goneR b a v) = false := by
  have hl : (goneR b a v).length = (put b a (pv v)).length := by rw [put_len ha]; unfold goneR; rw [List.length_map, List.length_range]
  refine inB_not hl (a := a) (by rw [put_len ha]; exact ha) ?_
  have e1 : (goneR b a v).getD a 0 = 1 - v := by
    unfold goneR
    rw [List.getD_eq_getElem?_getD, List.getElem?_map, List.getElem?_range ha]
    simp
  have e2 : (put b a (pv v))[a]'(by rw [put_len ha]; exact ha) = pv v := by
    unfold put
    simp [List.getElem_append, List.length_take, Nat.min_eq_left (Nat.le_of_lt ha)]
  rw [e1, e2]
  rcases hv with rfl | rfl <;> simp [pv, Part.vs]
theorem cast_get {xs : List Nat} {i : Nat} {x : Nat} (h : xs[i]? = some x) : (castL xs)[i]? = some (x : Int) := by
  unfold castL
  rw [List.getElem?_map, h]; rfl
theorem erase_map {α β : Type} (f : α → β) : ∀ (xs : List α) (i : Nat), (xs.map f).eraseIdx i = (xs.eraseIdx i).map f
  | [], _ => rfl
  | x :: r, 0 => rfl
  | x :: r, i + 1 => by simp only [List.map_cons, List.eraseIdx_cons_succ, erase_map f r i]
theorem pop_cast {left : List Nat} {v : Int} (h0 : 0 ≤ v) (h1 : v < left.length) (hl : left.length ≤ 1000) : ∃ a : Nat, left[v.toNat]? = some a ∧ popT (some v) (.lst (tInts (castL left))) = some (.leaf (.int (a : Int)), .lst (tInts (castL (left.eraseIdx v.toNat)))) := by
  have hlen : (tInts (castL left)).length = left.length := by rw [tInts_len]; unfold castL; exact List.length_map _
  obtain ⟨t, e1, e2⟩ := pop_at (ts := tInts (castL left)) h0 (by rw [hlen]; exact h1) (by rw [hlen]; omega)
  have hn : v.toNat < left.length := by omega
  refine ⟨left[v.toNat], List.getElem?_eq_getElem hn, ?_⟩
  rw [e2]
  have e3 : t = .leaf (.int ((left[v.toNat] : Nat) : Int)) := by
    unfold tInts at e1
    rw [List.getElem?_map, cast_get (List.getElem?_eq_getElem hn)] at e1
    exact (Option.some.inj e1).symm
  subst e3
  congr 2
  unfold tInts castL
  rw [erase_map, erase_map]
theorem part_pv {v : Int} (h : v = 0 ∨ v = 1) : PyData.tuple [.int v] = partD (pv v) := by rcases h with rfl | rfl <;> rfl
theorem wp_halved {N k : Nat} {x : Int} {t : T} {Q : T → List (Option T) → Prop} (hN : 4 ≤ N) (hx : x = (k : Int)) (hm : Bas t) (h0 : 0 < k) (h1 : k ≤ 6) (kq : ∀ t', Bas t' → t'.free = false → Q (.leaf (.bool true)) [some t', none]) :
    wF (run tbl.fn N 14 [t, .leaf (.int x)]) Q := by
  obtain ⟨n, rfl⟩ : ∃ n, N = n + 4 := ⟨N - 4, by omega⟩
  subst hx
  rw [wF_run (np := 2) (nv := 12) (body := b__law_halved) rfl rfl]
  unfold b__law_halved
  have f0 := bas_free hm
  have f1 := @mvK_of
  have kq := Fact.mk kq
  have g1 := rng_at (i := (k : Int)) (by omega) (by omega)
  have g2 : (k : Int) ≤ 16777216 := by omega
  walk_at "px*"
  refine compM_inv (SetI k) _ 0 [] _ ⟨t, [], hm, ⟨rfl⟩, rfl, rfl⟩ ?_ ?_
  · intro j d ts ρ hd hI
    obtain ⟨t1, ds, hm1, hl, rfl, rfl⟩ := hI
    obtain ⟨hj, rfl⟩ := rngD_get hd
    have f2 := bas_free hm1
    obtain ⟨y, hy, e1⟩ := str_small (i := (j : Int)) (by omega) (by omega)
    have e2 := bin_addS n_ok hy (by omega)
    clear hd
    walk_at "px*"
    refine wp_taken hm1 (by omega) (by omega) (by omega) (by omega) fun t2 v hm2 v0 v1 f3 => ?_
    obtain ⟨z, e3⟩ := pickT3 (a := .str "sure") (b := .str "loose") (c := .str "stuck") v0 v1
    walk_at "px*"
    refine ⟨t2, ds ++ [.tuple [.str (Str.ofString "n" ++ y), z]], hm2, ⟨by have := hl.out; rw [List.length_append, List.length_cons, List.length_nil]; omega⟩, ?_, rfl⟩
    rw [List.map_append]; rfl
  · intro ts ρ hI
    obtain ⟨t1, ds, hm1, hl, e0, rfl⟩ := hI
    rw [List.nil_append] at e0
    subst e0
    rw [rngD_len, Int.toNat_natCast, Nat.zero_add] at hl
    have hl' := hl.out
    subst hl'
    have f2 := bas_free hm1
    have e1 := @tup_lst ds
    have l1 : ds.length ≤ 16777216 := by omega
    have e2 := sp_full (n := n + 2) (ds := ds) (by omega)
    have e3 := rep_tup (d := .int 0) (k := ds.length) (by omega)
    rw [row_rep] at e3
    have e4 := sp_least (n := n + 2) (b := List.replicate ds.length .b) (by rw [List.length_replicate]; exact h1)
    have e5 := sp_row (n := n + 1) (r := leastB (List.replicate ds.length .b)) (by rw [least_len, List.length_replicate]; omega)
    have e6 := sp_size (n := n + 2) (b := List.replicate ds.length .b) (by rw [List.length_replicate]; exact h1)
    rw [prod_rep] at e6
    have e7 := shl_1 (k := ds.length) rfl (by omega)
    have e8 := @sp_number (n + 2) ((2 ^ ds.length : Nat) : Int) ((2 ^ ds.length : Nat) : Int)
    have e9 := rep_tup (d := .tuple [.int 0, .int 1]) (k := ds.length) (by omega)
    rw [box_rep] at e9
    have e10 : (rangeD (ds.length : Int)).map T.leaf = tInts (castL (List.range ds.length)) := by
      unfold rangeD tInts castL
      rw [List.map_map, List.map_map, Int.toNat_natCast]; rfl
    clear hl
    generalize 2 ^ ds.length = PW at *
    generalize hds : ds.length = k at *
    walk_at "px*"
    clear e1 l1 e2 e3 e4 e5 e6 e7 e8 e9 e10 f2
    refine forM_inv (HalfI k (.tuple ds)) ⟨t1, List.replicate k .b, List.range k, none, none, none, none, hm1, ⟨⟨List.length_replicate, List.nodup_range, by rw [List.length_range]; omega, fun a ha => ?_, by rw [prod_rep]; rfl⟩⟩, rfl, rfl⟩ ?_ ?_
    · rw [List.mem_range] at ha
      rw [List.getElem?_replicate, if_pos ha]
    · intro j d ρ hd hI
      obtain ⟨t2, b, left, c5, c7, c8, c9, hm2, hH, hc5, rfl⟩ := hI
      obtain ⟨hj, rfl⟩ := rngD_get hd
      obtain ⟨hb1, hb2, hb3, hb4, hb5⟩ := hH.out
      have f2 := bas_free hm2
      have l1 : (castL left).length = left.length := List.length_map _
      have hb3' : left.length + j = k := hb3
      clear hd hb2
      have hb3F := Fact.mk hb3
      have hb1F := Fact.mk hb1
      have hb4F := Fact.mk hb4
      have hb5F := Fact.mk hb5
      clear hb3 hb1 hb4 hb5
      walk_at "px*"
      refine wp_taken hm2 (by omega) (by omega) (by omega) (by omega) fun t3 v hm3 v0 v1 f3 => ?_
      obtain ⟨a, ea, e1⟩ := pop_cast (left := left) v0 v1 (by omega)
      have hab := hb4F.out a (List.mem_of_getElem? ea)
      have hal : a < b.length := (List.getElem?_eq_some_iff.1 hab).1
      have hnext := fun w => half_next (v := w) hH.out ea
      clear l1
      walk_at "px*"
      refine wp_taken hm3 (by omega) (by omega) (by omega) (by omega) fun t4 w hm4 w0 w1 f4 => ?_
      have hw : w = 0 ∨ w = 1 := by omega
      walk_at "px*"
      have hbl := hb1F.out
      refine compM_rng (fun i => T.leaf (.int (if i = a then 1 - w else (b.getD i .o).vs.headD 0))) (fun i hi => ?_) ?_
      · have hi' : i < b.length := by omega
        have q1 := idx_box hi'
        have gb : b.getD i .o = b[i] := by rw [List.getD_eq_getElem?_getD, List.getElem?_eq_getElem hi']; rfl
        rw [← gb] at q1
        have q2 := @head_part (b.getD i .o)
        generalize b.getD i .o = p at *
        clear hi hi' gb hbl hb3' ea hab hal hj
        by_cases hia : i = a
        · subst hia
          walk_at "px*"
          exact ⟨rfl, rfl⟩
        · have hia' : ¬ ((i : Int) = (a : Int)) := by omega
          walk_at "px*"
          exact ⟨rfl, rfl⟩
      · have q3 : (List.range (k : Int).toNat).map (fun i => T.leaf (.int (if i = a then 1 - w else (b.getD i .o).vs.headD 0))) = (goneR b a w).map fun v => T.leaf (.int v) := by
          unfold goneR
          rw [List.map_map, Int.toNat_natCast, hbl]; rfl
        rw [q3]
        have q4 := @tup_part (goneR b a w)
        have q5 : (goneR b a w).length = b.length := by unfold goneR; rw [List.length_map, List.length_range]
        have l2 : ((goneR b a w).map fun v => T.leaf (.int v)).length ≤ 16777216 := by rw [List.length_map, q5]; omega
        generalize ((goneR b a w).map fun v => T.leaf (.int v)) = GM at *
        have s1 := box_to (b := b) (a := a) (by omega)
        have s2 := box_from (b := b) (a := a) (by omega)
        obtain ⟨a1, a2⟩ := put_e (b := b) (a := a) (p := pv w) (by omega)
        rw [← part_pv hw] at a1 a2
        have pl := put_len (p := pv w) hal
        have x1 := sp_asked (n := n) (b := put b a (pv w)) (by omega) (by omega)
        have hn := hnext w
        rw [hn.2.2.2.2] at x1
        have x2 := shl_1 (k := k - (j + 1)) (x := (k : Int) - 1 - (j : Int)) (by omega) (by omega)
        have x3 := sp_in (n := n + 2) (b := put b a (pv w)) (r := goneR b a w) (by omega) (by omega)
        rw [gone_out hal hw] at x3
        have x4 := @sp_truth (n + 2) false false
        rw [beq_self_eq_true] at x4
        have fin := Fact.mk (show HalfI k (.tuple ds) (j + 1) [some t4, some (.leaf (.int (k : Int))), some (.leaf (.tuple ds)), some (.leaf (boxD (put b a (pv w)))), some (.lst (tInts (castL (left.eraseIdx v.toNat)))), some (.leaf (.int (j : Int))), none, some (.leaf (.int (a : Int))), some (.leaf (.int w)), some (.leaf (rowD (goneR b a w))), none, none] from ⟨t4, _, _, _, _, _, _, hm4, ⟨hn⟩, rfl, rfl⟩)
        clear q3 q5 hw pl hn hnext hb3' hbl ea hab hal hj w0 w1 v0 v1 h0 h1
        generalize 2 ^ (k - (j + 1)) = PW at *
        walk_at "px*"
        exact fin.out
    · intro ρ hI
      obtain ⟨t2, b, left, c5, c7, c8, c9, hm2, hH, hc5, rfl⟩ := hI
      rw [rngD_len, Int.toNat_natCast] at hH
      obtain ⟨hb1, _, _, _, hb5⟩ := hH.out
      rw [Nat.sub_self, Nat.pow_zero] at hb5
      have f2 := bas_free hm2
      have kq' := kq.out t2 hm2 f2
      clear kq hH
      have e0 : itemsS (.leaf (boxD b)) = some (b.map partD) := rfl
      walk_at "px*"
      refine compM_map (fun p => T.leaf (.int (p.vs.headD 0))) (fun p hp => ?_) ?_
      · have e1 := @head_part p
        walk_at "px*"
        exact ⟨rfl, rfl⟩
      · have e2 : (b.map fun p => T.leaf (.int (p.vs.headD 0))) = (leastB b).map fun v => T.leaf (.int v) := by unfold leastB; rw [List.map_map]; rfl
        rw [e2]
        have e3 := @tup_part (leastB b)
        have e4 := sp_least (n := n + 2) (b := b) (by omega)
        have e5 := sp_row (n := n + 1) (r := leastB b) (by rw [least_len]; omega)
        have e6 := sp_in (n := n + 2) (b := b) (r := leastB b) (by omega) (by rw [least_len]; omega)
        have hin := mem_rows b (leastB b) (least_len b)
        have hmem : leastB b ∈ rowsB b := by obtain ⟨s, e⟩ := rows_head b; rw [e]; simp
        rw [decide_eq_true hmem] at hin
        rw [← hin] at e6
        have e7 := @sp_truth (n + 2) true true
        rw [beq_self_eq_true] at e7
        have e8 := sp_size (n := n + 2) (b := b) (by omega)
        rw [hb5, show ((1 : Nat) : Int) = 1 from rfl] at e8
        have e9 := @sp_number (n + 2) 1 1
        have l2 : ((leastB b).map fun v => T.leaf (.int v)).length ≤ 16777216 := by rw [List.length_map, least_len]; omega
        generalize ((leastB b).map fun v => T.leaf (.int v)) = GM at *
        clear e2 hin hmem hb1 hb5 h0 h1
        walk_at "px*"
end L
namespace L
open PySem Pz PySem.W
local macro_rules | `(tactic| walk_at "px") => `(tactic| simp (implicitDefEqProofs := false) only [wE_non, wE_bl, wE_int, wE_str, wE_glob, vE_varR, q_kAt, q_kGo, wE_varM, wO_some, wO_none, mvK_leaf, mvK_scr, mvK_lst, mvK_dct, wE_bin, q_kBin, vBin2, q_kBin3, wE_neg, vNeg, q_kNeg2, asInt, 
  wE_cmp, q_kCmp, vCmp2, q_kCmp3, kB_at, wC_cmp, vTru, wC_var, wC_and, wC_call, wC_idx, wC_f1, wC_bin, wC_mt, wC_bl, is_nn, is_in, is_tn, is_sn, isnot_nn, isnot_in, isnot_tn, isnot_sn, truth_none, truth_bool, truth_int, truth_tup, truth_lst, Bool.not_true, Bool.not_false,  wC_or, wC_not, q_isAnd, q_isOr, q_isNot, wE_idx, q_kIdx, vIdx2, q_kIdx3, q_kIdx4, q_kIdx5, wE_tup, vTup, q_kTup2, wE_lst, q_kLst, 
  wEs_nil, wEs_non, wEs_bl, wEs_int, wEs_str, wEs_glob, wEs_tup, wEs_lst, wEs_dct, wEs_bin, wEs_neg, wEs_cmp, wEs_chain, wEs_and, wEs_or, wEs_not, wEs_ite, wEs_idx, wEs_slice, wEs_rev, wEs_call, wEs_call0, wEs_callK, wEs_f1, wEs_f2, wEs_isi, wEs_comp, wEs_pop, wEs_mt, wEs_gidx, wEs_frz, wEs_var, q_kVar, q_kVarT, wEsO_nil, wEsO_cons, q_kEsO, q_kEs, q_kEsT, wE_call0, q_kC0, wC_call0, wE_call, vCall, q_kCall2, wE_f1, vF1, wE_isi, wC_isi, vIsi, wE_ite, vIte, q_kIte2, wE_f2, q_kF2, vF22, wI_seq, vSeq, wI_rng1, wE_lrng, lrng_t, lrng_l, wEs_lrng, wI_rng2, kR20_at, kR21_at, wI_rng3, kR30_at, kR31_at, big_m1, vRng1, q_kRng2, wI_enum, vEnum, 
  q_kEnum2, wI_zip, q_kZip, vZip2, q_kZip3, q_kZip4, q_kZip5, q_kZip6, wE_comp, vComp, q_kComp2, q_kCompE, vompF_nop, q_kBd, q_kBc, q_kEnd2, vEnd, vYes, wE_chain, wC_chain, q_kCh, q_kCh2, vCh3, q_kChB, wE_dct, 
  q_kDct, wE_and, vVAnd, q_kVAnd3, q_kVAnd4, q_kVAnd2, wE_or, vVOr, q_kVOr3, q_kVOr4, wE_not, vVNot, q_kVNot2, wOp_nop, vOpt, q_kOpt2, wE_slice, q_kSl, q_kSl2, vSl3, q_kSl4, wE_rev, vRev, q_kRev2, wE_pop, 
  vPop, q_kPop2, q_kPop3, q_kPop4, wE_callK, q_kCallK, vCallK2, q_kCK2, q_kCK3, q_kCK4, q_kCK5, wF_ret, putBack, wQ_next, wQ_ret, cast0, kThn_next, kThn_ret, kThn_brk, kThn_cont, wT_nil, wT_retN, wT_brk, wT_cont, 
  wT_pass, wT_set, vSet, wT_asg, vAsg, q_kAsg2, wT_par, vPar, wT_ret, q_kRet, wT_expr, q_kExpr, wT_ite, q_kIf, wT_mut, vMut, q_kMu2, q_kMu3, q_kMu4, wT_ext, vExt, q_kExt2, kExt.seqL, wT_store, 
  q_kStore, vStore2, q_kSt3, q_kSt4, q_kSt5, vorF_at, q_kPut, wT_for, q_kFor, kFr, kTurn_next, kTurn_cont, kTurn_brk, kTurn_ret, kJ_next, kJ_ret, Pz.opnd, Pz.pureE, Pz.pureEs, Pz.stands, itemsS_tup, itemsS_list, itemsS_scr, itemsS_str, itemsS_lst, items_tup, items_list, items_scr, items_lst, Pz.leafOf, 
  leaves, isLeaf_leaf, isLeaf_lst, isLeaf_dct, isLeaf_scr, isLeaf_rng, free_leaf, free_lst, free_dct, free_scr, free_rng, flat_leaf, flat_lst, Pz.getSlot, Pz.setSlot, setSlots, Pz.bindIo, bindP_v, bindP_t, bindPs_nil, bindPs_cons, keyOf_str, keyOf_int, patVs, patsVs, wipeR_nil, wipeR_cons, 
  slotOk_none, slotOk_leaf, takeIt, takeOut, takeOuts, putIt, Pz.putIn, ioIt, ioOp, ioOf, restore, allBack, Pz.outsOf, O.map1, isNop, ioOps0, putIns0, Pz.isLst, Pz.isCon, stepsD, stepD, 
  onPath, isL, isC, mutT, extT, storeT_dct, sl_0, sl_1, sl_2, il_0, il_1, il_2, it_0, it_1, it_2, it_3, Option.isSome_some, List.isEmpty_nil, cmp_eqI, cmp_neI, cmp_ltI, cmp_gtI, cmp_leI, cmp_geI, bin_addI, bin_addT, bin_subI, bin_mulR, bin_mulL, bin_mulI, 
  bin_modI, bin_divL, Nat.reducePow, Int.reduceLT, Int.reduceEq, Int.reduceNe, Int.reduceLE, Int.reduceAdd, Int.reduceSub, Int.reduceMul, Int.reduceNeg, Int.reduceToNat, len_lst, len_tup, leaves_ints, 
  leaves_map, tup_lst, tInts_len, List.getElem?_cons_zero, List.getElem?_cons_succ, List.set_cons_zero, List.set_cons_succ, List.length_cons, List.zip_cons_cons, List.zip_nil_left, List.length_nil, List.length_map, List.map_cons, 
  List.map_nil, List.cons_append, List.nil_append, List.replicate, List.any_cons, List.any_nil, List.append_nil, Nat.sub_self, Nat.reduceSub, Nat.reduceAdd, Nat.reduceLeDiff, 
  Nat.reduceEqDiff, ↓reduceIte, ite_self, reduceCtorEq, ne_eq, not_false_eq_true, not_true_eq_false, true_and, and_true, false_and, and_false, true_or, or_true, false_or, or_false, 
  Bool.or_false, Bool.or_true, Bool.false_or, Bool.true_or, Bool.and_true, Bool.true_and, Bool.and_self, Bool.or_self, if_true, if_false, Pz.isTy, Pz.kdOf, isKd, szE, Nat.reduceLT, 
  Option.map_some, decide_true, decide_false, Bool.false_eq_true, List.mem_cons, List.not_mem_nil, Nat.lt_irrefl, Nat.le_refl, wOp_non, vompF_non, wOp_bl, vompF_bl, wOp_int, vompF_int, wOp_str, vompF_str, wOp_var, vompF_var, wOp_glob, vompF_glob, wOp_tup, vompF_tup, wOp_lst, vompF_lst, wOp_dct, vompF_dct, wOp_bin, vompF_bin, wOp_neg, vompF_neg, wOp_cmp, vompF_cmp, wOp_chain, vompF_chain, wOp_and, vompF_and, wOp_or, vompF_or, wOp_not, vompF_not, wOp_ite, vompF_ite, wOp_idx, vompF_idx, wOp_slice, vompF_slice, wOp_rev, vompF_rev, wOp_call, vompF_call, wOp_f1, vompF_f1, wOp_f2, vompF_f2, wOp_isi, vompF_isi, wOp_comp, vompF_comp, wOp_pop, vompF_pop, wOp_mt, vompF_mt, wOp_gidx, vompF_gidx, wOp_frz, vompF_frz, big62_of, int_int, abs_int, tInts_snoc, tStrs_snoc, tStrs_len, leaves_strs, Pz.isLst, onPath, permL])
local macro_rules | `(tactic| walk_at "px*") => `(tactic| simp (implicitDefEqProofs := false) only [wE_non, wE_bl, wE_int, wE_str, wE_glob, vE_varR, q_kAt, q_kGo, wE_varM, wO_some, wO_none, mvK_leaf, mvK_scr, mvK_lst, mvK_dct, wE_bin, q_kBin, vBin2, q_kBin3, wE_neg, vNeg, q_kNeg2, asInt, 
  wE_cmp, q_kCmp, vCmp2, q_kCmp3, kB_at, wC_cmp, vTru, wC_var, wC_and, wC_call, wC_idx, wC_f1, wC_bin, wC_mt, wC_bl, is_nn, is_in, is_tn, is_sn, isnot_nn, isnot_in, isnot_tn, isnot_sn, truth_none, truth_bool, truth_int, truth_tup, truth_lst, Bool.not_true, Bool.not_false,  wC_or, wC_not, q_isAnd, q_isOr, q_isNot, wE_idx, q_kIdx, vIdx2, q_kIdx3, q_kIdx4, q_kIdx5, wE_tup, vTup, q_kTup2, wE_lst, q_kLst, 
  wEs_nil, wEs_non, wEs_bl, wEs_int, wEs_str, wEs_glob, wEs_tup, wEs_lst, wEs_dct, wEs_bin, wEs_neg, wEs_cmp, wEs_chain, wEs_and, wEs_or, wEs_not, wEs_ite, wEs_idx, wEs_slice, wEs_rev, wEs_call, wEs_call0, wEs_callK, wEs_f1, wEs_f2, wEs_isi, wEs_comp, wEs_pop, wEs_mt, wEs_gidx, wEs_frz, wEs_var, q_kVar, q_kVarT, wEsO_nil, wEsO_cons, q_kEsO, q_kEs, q_kEsT, wE_call0, q_kC0, wC_call0, wE_call, vCall, q_kCall2, wE_f1, vF1, wE_isi, wC_isi, vIsi, wE_ite, vIte, q_kIte2, wE_f2, q_kF2, vF22, wI_seq, vSeq, wI_rng1, wE_lrng, lrng_t, lrng_l, wEs_lrng, wI_rng2, kR20_at, kR21_at, wI_rng3, kR30_at, kR31_at, big_m1, vRng1, q_kRng2, wI_enum, vEnum, 
  q_kEnum2, wI_zip, q_kZip, vZip2, q_kZip3, q_kZip4, q_kZip5, q_kZip6, wE_comp, vComp, q_kComp2, q_kCompE, vompF_nop, q_kBd, q_kBc, q_kEnd2, vEnd, vYes, wE_chain, wC_chain, q_kCh, q_kCh2, vCh3, q_kChB, wE_dct, 
  q_kDct, wE_and, vVAnd, q_kVAnd3, q_kVAnd4, q_kVAnd2, wE_or, vVOr, q_kVOr3, q_kVOr4, wE_not, vVNot, q_kVNot2, wOp_nop, vOpt, q_kOpt2, wE_slice, q_kSl, q_kSl2, vSl3, q_kSl4, wE_rev, vRev, q_kRev2, wE_pop, 
  vPop, q_kPop2, q_kPop3, q_kPop4, wE_callK, q_kCallK, vCallK2, q_kCK2, q_kCK3, q_kCK4, q_kCK5, wF_ret, putBack, wQ_next, wQ_ret, cast0, kThn_next, kThn_ret, kThn_brk, kThn_cont, wT_nil, wT_retN, wT_brk, wT_cont, 
  wT_pass, wT_set, vSet, wT_asg, vAsg, q_kAsg2, wT_par, vPar, wT_ret, q_kRet, wT_expr, q_kExpr, wT_ite, q_kIf, wT_mut, vMut, q_kMu2, q_kMu3, q_kMu4, wT_ext, vExt, q_kExt2, kExt.seqL, wT_store, 
  q_kStore, vStore2, q_kSt3, q_kSt4, q_kSt5, vorF_at, q_kPut, wT_for, q_kFor, kFr, kTurn_next, kTurn_cont, kTurn_brk, kTurn_ret, kJ_next, kJ_ret, Pz.opnd, Pz.pureE, Pz.pureEs, Pz.stands, itemsS_tup, itemsS_list, itemsS_scr, itemsS_str, itemsS_lst, items_tup, items_list, items_scr, items_lst, Pz.leafOf, 
  leaves, isLeaf_leaf, isLeaf_lst, isLeaf_dct, isLeaf_scr, isLeaf_rng, free_leaf, free_lst, free_dct, free_scr, free_rng, flat_leaf, flat_lst, Pz.getSlot, Pz.setSlot, setSlots, Pz.bindIo, bindP_v, bindP_t, bindPs_nil, bindPs_cons, keyOf_str, keyOf_int, patVs, patsVs, wipeR_nil, wipeR_cons, 
  slotOk_none, slotOk_leaf, takeIt, takeOut, takeOuts, putIt, Pz.putIn, ioIt, ioOp, ioOf, restore, allBack, Pz.outsOf, O.map1, isNop, ioOps0, putIns0, Pz.isLst, Pz.isCon, stepsD, stepD, 
  onPath, isL, isC, mutT, extT, storeT_dct, sl_0, sl_1, sl_2, il_0, il_1, il_2, it_0, it_1, it_2, it_3, Option.isSome_some, List.isEmpty_nil, cmp_eqI, cmp_neI, cmp_ltI, cmp_gtI, cmp_leI, cmp_geI, bin_addI, bin_addT, bin_subI, bin_mulR, bin_mulL, bin_mulI, 
  bin_modI, bin_divL, Nat.reducePow, Int.reduceLT, Int.reduceEq, Int.reduceNe, Int.reduceLE, Int.reduceAdd, Int.reduceSub, Int.reduceMul, Int.reduceNeg, Int.reduceToNat, len_lst, len_tup, leaves_ints, 
  leaves_map, tup_lst, tInts_len, List.getElem?_cons_zero, List.getElem?_cons_succ, List.set_cons_zero, List.set_cons_succ, List.length_cons, List.zip_cons_cons, List.zip_nil_left, List.length_nil, List.length_map, List.map_cons, 
  List.map_nil, List.cons_append, List.nil_append, List.replicate, List.any_cons, List.any_nil, List.append_nil, Nat.sub_self, Nat.reduceSub, Nat.reduceAdd, Nat.reduceLeDiff, 
  Nat.reduceEqDiff, ↓reduceIte, ite_self, reduceCtorEq, ne_eq, not_false_eq_true, not_true_eq_false, true_and, and_true, false_and, and_false, true_or, or_true, false_or, or_false, 
  Bool.or_false, Bool.or_true, Bool.false_or, Bool.true_or, Bool.and_true, Bool.true_and, Bool.and_self, Bool.or_self, if_true, if_false, Pz.isTy, Pz.kdOf, isKd, szE, Nat.reduceLT, 
  Option.map_some, decide_true, decide_false, Bool.false_eq_true, List.mem_cons, List.not_mem_nil, Nat.lt_irrefl, Nat.le_refl, wOp_non, vompF_non, wOp_bl, vompF_bl, wOp_int, vompF_int, wOp_str, vompF_str, wOp_var, vompF_var, wOp_glob, vompF_glob, wOp_tup, vompF_tup, wOp_lst, vompF_lst, wOp_dct, vompF_dct, wOp_bin, vompF_bin, wOp_neg, vompF_neg, wOp_cmp, vompF_cmp, wOp_chain, vompF_chain, wOp_and, vompF_and, wOp_or, vompF_or, wOp_not, vompF_not, wOp_ite, vompF_ite, wOp_idx, vompF_idx, wOp_slice, vompF_slice, wOp_rev, vompF_rev, wOp_call, vompF_call, wOp_f1, vompF_f1, wOp_f2, vompF_f2, wOp_isi, vompF_isi, wOp_comp, vompF_comp, wOp_pop, vompF_pop, wOp_mt, vompF_mt, wOp_gidx, vompF_gidx, wOp_frz, vompF_frz, big62_of, int_int, abs_int, tInts_snoc, tStrs_snoc, tStrs_len, leaves_strs, Pz.isLst, onPath, permL, *])
def isTrueR : FR → Bool
  | .ret (.leaf (.bool true)) _ => true
  | _ => false
theorem isTrueR_eq {r : FR} (h : isTrueR r = true) : ∃ o, r = .ret (.leaf (.bool true)) o := by
  unfold isTrueR at h
  split at h
  · exact ⟨_, rfl⟩
  · cases h
theorem hand_true : isTrueR (run tbl.fn 39 17 []) = true := by decide +kernel
theorem wp_boxX {N c : Nat} {x : Int} {t : T} {Q : T → List (Option T) → Prop} (hN : 2 ≤ N) (hx : x = (c : Int)) (hm : Bas t) (hc : c ≤ 6) (k : ∀ t' b, Bas t' → b.length = c → t'.free = false → Q (.leaf (boxD b)) [some t', none]) : wF (run tbl.fn N 6 [t, .leaf (.int x)]) Q := by
  obtain ⟨n, rfl⟩ : ∃ n, N = n + 2 := ⟨N - 2, by omega⟩
  subst hx
  exact wp_box hm hc k
theorem lap4 {j : Nat} (h : j < 4) : ∃ m : Int, 3 ≤ m ∧ m ≤ 6 ∧ idxT (.leaf (.tuple [.int 6, .int 6, .int 4, .int 3])) (.int (j : Int)) = some (.leaf (.int m)) := by
  have : j = 0 ∨ j = 1 ∨ j = 2 ∨ j = 3 := by omega
  rcases this with rfl | rfl | rfl | rfl
  · exact ⟨6, by omega, by omega, rfl⟩
  · exact ⟨6, by omega, by omega, rfl⟩
  · exact ⟨4, by omega, by omega, rfl⟩
  · exact ⟨3, by omega, by omega, rfl⟩
def LawI (ns : List Int) (j : Nat) (ρ : Rho) : Prop := ∃ (t : T) (c2 c3 : Option T), Bas t ∧ slotOk (some c2) = true ∧ ρ = [some (.scr ns), some t, c2, c3]
theorem law_true (ns : List Int) (hn : ns.length ≤ 63) : ∃ outs, run tbl.fn 40 18 [.scr ns] = .ret (.leaf (.bool true)) outs := by
  suffices h : wF (run tbl.fn 40 18 [.scr ns]) fun u o => u = .leaf (.bool true) by
    obtain ⟨u, o, e, rfl⟩ := wF_get h
    exact ⟨o, e⟩
  rw [wF_run (n := 39) (np := 1) (nv := 4) (body := b_law) rfl rfl]
  unfold b_law
  obtain ⟨o24, e24⟩ := isTrueR_eq hand_true
  have f1 := @mvK_of
  have g := rng_at (i := 4) (by omega) (by omega)
  clear hn
  walk_at "px*"
  refine wp_basket fun t0 hm0 f0 => ?_
  walk_at "px*"
  refine forM_inv (LawI ns) ⟨t0, none, none, hm0, rfl, rfl⟩ ?_ ?_
  · intro j d ρ hd hI
    obtain ⟨t, c2, c3, hm, hc2, rfl⟩ := hI
    obtain ⟨hj, rfl⟩ := rngD_get hd
    obtain ⟨m, m1, m2, e1⟩ := lap4 (j := j) (by omega)
    have g0 := bas_free hm
    clear hd f0 e24
    walk_at "px*"
    refine wp_taken hm (by omega) (by omega) (by omega) (by omega) fun t1 v hm1 v0 v1 g1 => ?_
    obtain ⟨v', rfl⟩ := Int.eq_ofNat_of_zero_le v0
    walk_at "px*"
    refine wp_boxX (c := 1 + v') (by omega) (by omega) hm1 (by omega) fun t2 b hm2 hb g2 => ?_
    have x1 := sp_asked (n := 36) (b := b) (by omega) (by omega)
    have x1 : Pz.run tbl.fn 39 12 [.leaf (boxD b)] = .ret (.leaf (.int (prodB b : Int))) [none] := x1
    have x2 : ¬ ((prodB b : Int) = 0) := by have := prodB_pos b; omega
    have hbF := Fact.mk hb
    clear hb
    walk_at "px*"
    refine wp_changed hm2 (by have := hbF.out; omega) (by have := hbF.out; omega) fun t3 hm3 g3 => ?_
    walk_at "px*"
    refine wp_parted hm3 (by have := hbF.out; omega) (by have := hbF.out; omega) fun t4 hm4 g4 => ?_
    walk_at "px*"
    refine wp_shared hm4 (by have := hbF.out; omega) (by have := hbF.out; omega) fun t5 hm5 g5 => ?_
    walk_at "px*"
    exact ⟨t5, _, _, hm5, rfl, rfl⟩
  · intro ρ hI
    obtain ⟨t, c2, c3, hm, hc2, rfl⟩ := hI
    have g0 := bas_free hm
    clear f0 e24
    walk_at "px*"
    refine wp_boxX (c := 6) (by omega) rfl hm (by omega) fun t2 b hm2 hb g2 => ?_
    have x1 := sp_asked (n := 36) (b := b) (by omega) (by omega)
    have x1 : Pz.run tbl.fn 39 12 [.leaf (boxD b)] = .ret (.leaf (.int (prodB b : Int))) [none] := x1
    have x2 : (0 : Int) < (prodB b : Int) := by have := prodB_pos b; omega
    clear hb
    walk_at "px*"
    refine wp_taken hm2 (by omega) (by omega) (by omega) (by omega) fun t3 v hm3 v0 v1 g3 => ?_
    obtain ⟨v', rfl⟩ := Int.eq_ofNat_of_zero_le v0
    walk_at "px*"
    refine wp_halved (k := 2 + v') (by omega) (by omega) hm3 (by omega) (by omega) fun t4 hm4 g4 => ?_
    walk_at "px*"
end L
namespace L
open Pz
theorem chk_ok : tbl.all (Pz.chkD tbl GLs) = true := by decide +kernel
end L
open PySem PySem.W PyProof.Rows
set_option maxRecDepth 100000 in
set_option maxHeartbeats 0 in
theorem PySem.Challenge.cw_fewwrongs_k13_rows_of_boxes_holds : PySem.Challenge.rw_fewwrongs_k13_rows_of_boxes.Holds := by
  w_on; o_law; k_head; (case hw => w_witness2)
  k_fill
  refine Pz.law_walk (l := PySem.Challenge.rw_fewwrongs_k13_rows_of_boxes) (t := L.tbl) (GL := L.GLs) (n := 40) (i := 18) (dl := L.d_law) (p := "script") rfl rfl ⟨rfl, by decide, by decide⟩ (fun w h Y => PySem.W.kIn_of Y) rfl rfl rfl rfl ?F L.law_true
  case F =>
    intro w mg h KX G
    refine' Pz.facts_mkG KX G (show Pz.AllF _ _ L.tbl from ⟨Pz.fact_mk (d := L.d_full_box) KX G ?a0 ?l0 ?c0 ?k0 (fun _ _ _ _ _ _ us hl => match us, hl with | [_], _ => rfl) (fun _ _ _ _ _ _ n ks pp h => by cases h),
      ⟨Pz.fact_mk (d := L.d_box_size) KX G ?a1 ?l1 ?c1 ?k1 (fun _ _ _ _ _ _ us hl => match us, hl with | [_], _ => rfl) (fun _ _ _ _ _ _ n ks pp h => by (cases h with | head => exact (fun us ws h1 h2 => match us, ws, h1, h2 with | [], [_], _, _ => ⟨_, rfl, rfl⟩) | tail _ h => cases h)),
      ⟨Pz.fact_mk (d := L.d_in_box) KX G ?a2 ?l2 ?c2 ?k2 (fun _ _ _ _ _ _ us hl => match us, hl with | [_, _], _ => rfl) (fun _ _ _ _ _ _ n ks pp h => by (cases h with | head => exact (fun us ws h1 h2 => match us, ws, h1, h2 with | [], [_, _], _, _ => ⟨_, rfl, rfl⟩) | tail _ h => cases h)),
      ⟨Pz.fact_mk (d := L.d_least_row) KX G ?a3 ?l3 ?c3 ?k3 (fun _ _ _ _ _ _ us hl => match us, hl with | [_], _ => rfl) (fun _ _ _ _ _ _ n ks pp h => by (cases h with | head => exact (fun us ws h1 h2 => match us, ws, h1, h2 with | [], [_], _, _ => ⟨_, rfl, rfl⟩) | tail _ h => cases h)),
      ⟨Pz.fact_mk (d := L.d__law_basket) KX G ?a4 ?l4 ?c4 ?k4 (fun _ _ _ _ _ _ us hl => match us, hl with | [_], _ => rfl) (fun _ _ _ _ _ _ n ks pp h => by cases h),
      ⟨Pz.fact_mk (d := L.d__law_taken) KX G ?a5 ?l5 ?c5 ?k5 (fun _ _ _ _ _ _ us hl => match us, hl with | [_, _, _], _ => rfl) (fun _ _ _ _ _ _ n ks pp h => by cases h),
      ⟨Pz.fact_mk (d := L.d__law_box) KX G ?a6 ?l6 ?c6 ?k6 (fun _ _ _ _ _ _ us hl => match us, hl with | [_, _], _ => rfl) (fun _ _ _ _ _ _ n ks pp h => by cases h),
      ⟨Pz.fact_mk (d := L.d__law_members) KX G ?a7 ?l7 ?c7 ?k7 (fun _ _ _ _ _ _ us hl => match us, hl with | [_], _ => rfl) (fun _ _ _ _ _ _ n ks pp h => by cases h),
      ⟨Pz.fact_mk (d := L.d__law_every) KX G ?a8 ?l8 ?c8 ?k8 (fun _ _ _ _ _ _ us hl => match us, hl with | [_], _ => rfl) (fun _ _ _ _ _ _ n ks pp h => by cases h),
      ⟨Pz.fact_mk (d := L.d__law_number) KX G ?a9 ?l9 ?c9 ?k9 (fun _ _ _ _ _ _ us hl => match us, hl with | [_, _], _ => rfl) (fun _ _ _ _ _ _ n ks pp h => by cases h),
      ⟨Pz.fact_mk (d := L.d__law_truth) KX G ?a10 ?l10 ?c10 ?k10 (fun _ _ _ _ _ _ us hl => match us, hl with | [_, _], _ => rfl) (fun _ _ _ _ _ _ n ks pp h => by cases h),
      ⟨Pz.fact_mk (d := L.d__law_row) KX G ?a11 ?l11 ?c11 ?k11 (fun _ _ _ _ _ _ us hl => match us, hl with | [_, _], _ => rfl) (fun _ _ _ _ _ _ n ks pp h => by cases h),
      ⟨Pz.fact_mk (d := L.d__law_asked) KX G ?a12 ?l12 ?c12 ?k12 (fun _ _ _ _ _ _ us hl => match us, hl with | [_], _ => rfl) (fun _ _ _ _ _ _ n ks pp h => by cases h),
      ⟨Pz.fact_mk (d := L.d__law_changed) KX G ?a13 ?l13 ?c13 ?k13 (fun _ _ _ _ _ _ us hl => match us, hl with | [_, _], _ => rfl) (fun _ _ _ _ _ _ n ks pp h => by cases h),
      ⟨Pz.fact_mk (d := L.d__law_halved) KX G ?a14 ?l14 ?c14 ?k14 (fun _ _ _ _ _ _ us hl => match us, hl with | [_, _], _ => rfl) (fun _ _ _ _ _ _ n ks pp h => by cases h),
      ⟨Pz.fact_mk (d := L.d__law_parted) KX G ?a15 ?l15 ?c15 ?k15 (fun _ _ _ _ _ _ us hl => match us, hl with | [_, _], _ => rfl) (fun _ _ _ _ _ _ n ks pp h => by cases h),
      ⟨Pz.fact_mk (d := L.d__law_shared) KX G ?a16 ?l16 ?c16 ?k16 (fun _ _ _ _ _ _ us hl => match us, hl with | [_, _], _ => rfl) (fun _ _ _ _ _ _ n ks pp h => by cases h),
      ⟨Pz.fact_mk (d := L.d__law_hand) KX G ?a17 ?l17 ?c17 ?k17 (fun _ _ _ _ _ _ us hl => match us, hl with | [], _ => rfl) (fun _ _ _ _ _ _ n ks pp h => by cases h),
      ⟨Pz.fact_mk (d := L.d_law) KX G ?a18 ?l18 ?c18 ?k18 (fun _ _ _ _ _ _ us hl => match us, hl with | [_], _ => rfl) (fun _ _ _ _ _ _ n ks pp h => by cases h),
      trivial⟩⟩⟩⟩⟩⟩⟩⟩⟩⟩⟩⟩⟩⟩⟩⟩⟩⟩⟩) (show Pz.AllN _ Pz.bltNames from ⟨?n0, ⟨?n1, ⟨?n2, ⟨?n3, ⟨?n4, ⟨?n5, ⟨?n6, ⟨?n7, ⟨?n8, ⟨?n9, ⟨?n10, ⟨?n11, ⟨?n12, ⟨?n13, ⟨?n14, ⟨?n15, ⟨?n16, trivial⟩⟩⟩⟩⟩⟩⟩⟩⟩⟩⟩⟩⟩⟩⟩⟩⟩) (show Pz.AllG _ _ L.GLs from ⟨Pz.gl_tup KX G ?ga0 ?gl0 ?gv0 ?gz0, trivial⟩) L.chk_ok
    (case a0 => k_is); (case l0 => k_is); (case c0 => k_is); (case k0 => k_is)
    (case a1 => k_is); (case l1 => k_is); (case c1 => k_is); (case k1 => k_is)
    (case a2 => k_is); (case l2 => k_is); (case c2 => k_is); (case k2 => k_is)
    (case a3 => k_is); (case l3 => k_is); (case c3 => k_is); (case k3 => k_is)
    (case a4 => k_is); (case l4 => k_is); (case c4 => k_is); (case k4 => k_is)
    (case a5 => k_is); (case l5 => k_is); (case c5 => k_is); (case k5 => k_is)
    (case a6 => k_is); (case l6 => k_is); (case c6 => k_is); (case k6 => k_is)
    (case a7 => k_is); (case l7 => k_is); (case c7 => k_is); (case k7 => k_is)
    (case a8 => k_is); (case l8 => k_is); (case c8 => k_is); (case k8 => k_is)
    (case a9 => k_is); (case l9 => k_is); (case c9 => k_is); (case k9 => k_is)
    (case a10 => k_is); (case l10 => k_is); (case c10 => k_is); (case k10 => k_is)
    (case a11 => k_is); (case l11 => k_is); (case c11 => k_is); (case k11 => k_is)
    (case a12 => k_is); (case l12 => k_is); (case c12 => k_is); (case k12 => k_is)
    (case a13 => k_is); (case l13 => k_is); (case c13 => k_is); (case k13 => k_is)
    (case a14 => k_is); (case l14 => k_is); (case c14 => k_is); (case k14 => k_is)
    (case a15 => k_is); (case l15 => k_is); (case c15 => k_is); (case k15 => k_is)
    (case a16 => k_is); (case l16 => k_is); (case c16 => k_is); (case k16 => k_is)
    (case a17 => k_is); (case l17 => k_is); (case c17 => k_is); (case k17 => k_is)
    (case a18 => k_is); (case l18 => k_is); (case c18 => k_is); (case k18 => k_is)
    (case n0 => k_is)
    (case n1 => k_is)
    (case n2 => k_is)
    (case n3 => k_is)
    (case n4 => k_is)
    (case n5 => k_is)
    (case n6 => k_is)
    (case n7 => k_is)
    (case n8 => k_is)
    (case n9 => k_is)
    (case n10 => k_is)
    (case n11 => k_is)
    (case n12 => k_is)
    (case n13 => k_is)
    (case n14 => k_is)
    (case n15 => k_is)
    (case n16 => k_is)
    (case ga0 => k_is); (case gl0 => k_is); (case gv0 => rfl); (case gz0 => decide)
